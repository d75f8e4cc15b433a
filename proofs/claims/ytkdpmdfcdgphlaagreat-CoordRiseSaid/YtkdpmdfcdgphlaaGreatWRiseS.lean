import Derived.Test.YtkdpmdfcdgphlaaGreatM9
import Derived.Test.YtkdpmdfcdgphlaaGreatM34
import Derived.Test.YtkdpmdfcdgphlaaGreatM2
set_option linter.all false
/- Part of this claim's proof. Conditions: as its theorems say. -/
set_option linter.all false
namespace Go.Proofs.YtkdpmdfcdgphlaaGreat
open Go.RowKit Go.Mem Go.Po
section
variable {n n' N N2 : Nat} {A B O O' Ok Op S : Nat → Prop} {w w' wr w1 w4 w5 W3 : World} {cb pb kb db om : Nat} {l l' : List St} {s s' : St} {G G' : List (Int × Goes)} {K : List (Int × U6)} {C C' : List (Int × Aq)} {br : Int} {b b2 : Br} {lo ao so ao' : Option Addr} {lc cap sO cap' : Nat} {outs outs' pk : List Ye} {ps : List Qv}
theorem Br.oa(h:b.of N A O w cb pb kb db):∀j,O j->A j:=Cq.oa (show Cq N A O w cb pb kb db b.l b.s b.G b.K from h)
end
end Go.Proofs.YtkdpmdfcdgphlaaGreat
namespace Go.Po
open Go.Mem Go.Proofs.YtkdpmdfcdgphlaaGreat
def riseRec(s:St)(t:Int):Rec:=⟨8,t,0,false,(Ci s.opens t).parts,[]⟩
def wrote(b:Br)(r:Rec):Br:=⟨[Qf b.s r],Qf b.s r,b.G,b.K⟩
def riseGo(s:St):List Int->Br->Int×Br
 | [],b=>(0,b)
 | t::r,b=>if Mk s t=true then riseGo s r b else if (Zf b.s (riseRec s t)==0)=true then riseGo s r (wrote b (riseRec s t)) else (Zf b.s (riseRec s t),b)
def ownL(s:St):List Int:=(List.range s.tx.toNat).map λi:Nat=>mk s.broker ((i:Int)+1)
def riseX(b:Br):Int×Br:=riseGo b.s (ownL b.s) b
theorem ownL_drop{s:St}{i:Nat}(a:i<s.tx.toNat):(ownL s).drop i=mk s.broker ((i:Int)+1)::(ownL s).drop (i+1):=by
 have b:i<(ownL s).length:=by simpa[ownL] using a
 rw[List.drop_eq_getElem_cons b];simp[ownL]
end Go.Po
namespace Go.Proofs.YtkdpmdfcdgphlaaGreat
open Go.RowKit Go.Mem Go.Po
section
variable {n n' : Nat} {A B O Ok Op S : Nat → Prop} {w w' : World} {cb pb kb db om : Nat}
set_option maxHeartbeats 8000000 in
set_option maxRecDepth 100000 in
theorem rise_any(b:Br)(h:b.of n A O w cb pb kb db)(f:∀k,A k->k<w.heap.size)(aB:n+b.s.tx.toNat<199):
 Calls Tryz.prog 40 #[.pointer (some ⟨cb,0,none⟩)] w λe w'=>e=.returned (.int .i64 (riseX b).1)/\Zq A O w w' λA O w=>(riseX b).2.of (n+b.s.tx.toNat) A O w cb pb kb db:=by
 obtain⟨J,X⟩:=Zh2 h f;obtain⟨c0,c1,c2⟩:=Br.cells h;have aH:=Zd c0;have aC:=Zh (Fu h);have g:=(Br.good h).may;have o:=g.tx;obtain⟨ac,c⟩:=Zx (riseX b);rw[<-c];rw[riseX]at c;obtain⟨m,d⟩:=Zx b.s.tx.toNat;rw[<-d]at aB ⊢;have l:b.s.tx=(m:Int):=by omega
 have aK:m<=200:=by omega
 obtain⟨ax,Z,aa⟩:=Zh3 c d l;clear h f c d g o l c2;go_enter Tryz.func40,Tryz.ntmps40;go_wp2_with fail;refine aC.mono ?_;rintro e U ⟨al,ah,an,aj,ak,af,W,V,am,ai,rfl,f,b2⟩;obtain⟨s,c⟩:=Zx (U.alloc (.cells #[.int .i64 b.s.broker,.int .i64 b.s.nextId,.int .i64 b.s.nextSeq,.int .i64 b.s.tx,.slice al b.s.ms.length ah,.slice an b.s.waits.length aj,.slice ak b.s.ends.length af,.slice W b.s.opens.length V,.slice am b.s.noes.length ai] 43));have d:=Zb c;have z:=Zn c;obtain⟨au,az,q⟩:=Zh3 c (f.bel d) (b2.trans d);have aL:w.heap.size<=U.heap.size:=b2.size;have a8:=Zh z;clear f b2 d c c1;go_upto_region 4 with (fail);rw[<-au.o];have c:b.of (n+0) (λk=>A k\/O k) O s cb pb kb db:=Br.bel (Br.mono J.o (λj _ h=>h.elim id (Br.oa J.o j)) λj d=>.inr d) q.o;have ay:=Zh c;clear c z;go_wp2;go_loopw[4] (λa wr=>∃(i:Nat) (c:Br) (g:Nat->Prop),i<=m/\a=.int .i64 ((i:Int)+1)/\Hid (ac=riseGo b.s ((ownL b.s).drop i) c)/\Hid (c.of (n+i) (λk=>A k\/g k) g wr cb pb kb db)/\Hid (Kept O s wr)/\Hid (∀j,g j->O j\/s.heap.size<=j)/\Hid (c.s.broker=b.s.broker)) (λa _=>m+1-(intOf a).toNat)
 case atStart=>exact⟨0,b,O,Nat.zero_le _,rfl,ax,ay,Zh (Kept.refl O s),Zh λj d=>.inl d,Zh rfl⟩
 case round=>
  obtain⟨i,c,g,aI,rfl,ae,x,o,D,M⟩:=hrel;have l:=Br.lt J;have E:¬O U.heap.size:=λh=>by have:=l _ h;omega
  have H:=Zh (o.heap E a8);have z:=cell_of_block H 3 _ rfl;have aN:=Qb H;by_cases a9:i<m
  ·have ab:=Zh (az.keep o.o (λk h=>l k h) (B:=λk=>A k\/g k) λk P h=>by
    rcases h with h|h
    ·exact X k h
    ·rcases D.o k h with h|h
     ·exact l k h
     ·omega)
   have aA:(i:Int)+1<=b.s.tx:=by have:=aa.o;omega
   have aM:IntKind.i64.wrap ((i:Int)+1+1)=((i+1:Nat):Int)+1:=by rw[IntKind.wrap_i64];omega
   obtain⟨t,v⟩:=Zx (mk b.s.broker ((i:Int)+1));have aD:i64 t:=v▸Qyw _ _;have f:=ae.o;rw[ownL_drop (by rw[<-Z.o];exact a9),<-v,riseGo]at f;obtain⟨L,y⟩:=Zx (Mk b.s t);rw[<-y]at f;obtain⟨C,ar,ap⟩:=Zh3 f v y;have c0:wr.cell? ⟨cb,0,none⟩=some (.int .i64 b.s.broker):=by rw[<-M.o];exact(Br.cells x.o).1
   clear l E f v y;go_wp2_with fail;refine(Ms b.s.broker ((i:Int)+1) wr).mono ?_;rw[<-ar.o];rintro e aO ⟨rfl,rfl⟩;obtain⟨v,E,F,G,I,N,Q,K,R⟩:=sAt H.o;clear c0;go_wp2_with fail;refine(Sy b.s al ah an aj ak af W V am ai t _ wr ab).mono ?_;rw[<-ap.o];rintro e aE ⟨rfl,l⟩;have y:=Zh l;clear l v E F G I N Q K R z;rcases L with _|_
   case true=>
    go_wp2;go_roundw
    case rel=>exact⟨i+1,c,g,by omega,by go_num,Zh (by rw[C.o];rfl),Zh (Br.more (Br.bel x.o y.o) (by omega)),Zh (o.trans (y.kept O)),D,M⟩
    case measure=>simp[intOf];omega
   have K:=cell_of_block (y.heap H) 7 _ rfl;go_wp2_with fail;refine(Pb b.s.opens W V t _ aE (ab.bel y).opens).mono ?_;rintro e aF ⟨ao,cap,rfl,T,ad⟩;obtain⟨I,E⟩:=Zx (Ci b.s.opens t);rw[<-E]at T;rw[<-E];obtain⟨aG,z⟩:=Zx (aF.alloc (.cells #[.int .i64 I.tid,.slice ao I.parts.length cap] 134));have G:=Zb z;have S:=Zn z;have F:=Zh (y.trans (ad.trans G));obtain⟨r,Q⟩:=Zx (riseRec b.s t);have v:r=⟨8,t,0,false,I.parts,[]⟩:=by rw[Q,E];rfl
   obtain⟨l,N⟩:=Zx (Zf c.s r);have R:=Qdx c (Br.bel x.o F.o) (λk h=>Nat.lt_of_lt_of_le (h.elim (λh=>Nat.lt_of_lt_of_le (X.o k h) (Nat.le_trans q.size o.size)) (Br.lt x.o k)) F.size) (by omega) ⟨8,t,0,false,I.parts,[]⟩ ao cap none 0 aD (show i64 0 by simp[i64]) (T.bel G) (Rd.nil _ _ _ none 0 (Nat.zero_le _)) (λp Y=>by simp at Y);rw[<-v,<-N,if_pos (show(r.kind !=9)=true by rw[v];rfl),v]at R;obtain⟨aw,av,Y,aq⟩:=Zh4 R z (show ac=if (l==0)=true then riseGo b.s ((ownL b.s).drop (i+1)) (wrote c r) else (l,c) by rw[C.o,N,Q];rfl) v;have L:=cell_of_block S 1 _ rfl;have aJ:=Qb S;clear T ad E G S Q v N R z K;go_upto_region 11 with (fail);rw[<-av.o];have c1:=(Br.cells (Br.bel x F)).1;go_wp2_with fail;refine aw.zR λw8 v=>?_
   have S:=Zh (Zq.from F v);clear v c1 L;obtain⟨G,Q,z,E⟩:=S.o;have R:=Br.mono (B:=λk=>A k\/G k) Q (λj _ h=>h.elim (λh=>.inl (.inl h)) .inr) λj d=>.inr d
   have v:∀j,G j->O j\/s.heap.size<=j:=λj d=>(E j d).elim (D.o j) λh=>.inr (Nat.le_trans o.size h)
   have P:Kept O s w8:=o.onto z D.o;obtain⟨N,L,K⟩:=Zh3 R v P;clear Q z E R v P;by_cases v:l=0
   ·have E:(l==0)=true:=by simpa using v
    have P:(l !=0)=false:=by simpa using v
    have z:=Zh E;clear v E;go_wp2;go_roundw
    case rel=>exact⟨i+1,wrote c r,G,by omega,by go_num,Zh (by rw[Y.o,if_pos z.o]),Zh (by have:=N.o;rw[if_pos z.o,<-aq.o]at this;exact this),K,L,Zh ((Ya c.s r).trans M.o)⟩
    case measure=>simp[intOf];omega
   ·have E:(l==0)=false:=by simpa using v
    have P:(l !=0)=true:=by simpa using v
    have z:=Zh E;clear v E;go_wp2;go_ret;have E:=N.o;rw[if_neg (by rw[z.o];simp)]at E;have v:=Y.o;rw[if_neg (by rw[z.o];simp)]at v;refine⟨by rw[v];rfl,?_⟩;rw[v];exact⟨G,Br.more E (by omega),(q.kept O).trans K.o,λj d=>(L.o j d).imp id λh=>Nat.le_trans q.size h⟩
  ·obtain rfl:i=m:=by omega
   have aA:¬((i:Int)+1<=b.s.tx):=by have:=aa.o;omega
   have f:=ae.o;rw[List.drop_of_length_le (by simp[ownL,<-Z.o]),riseGo]at f;have C:=Zh f;clear f;go_wp2;go_ret;refine⟨by rw[C.o];rfl,?_⟩;rw[C.o];exact⟨g,x,(q.kept O).trans o,λj d=>(D j d).imp id λh=>Nat.le_trans q.size h⟩
end
end Go.Proofs.YtkdpmdfcdgphlaaGreat
namespace Go.Proofs.YtkdpmdfcdgphlaaGreat
open Go.RowKit Go.Mem Go.Po
theorem refMake_any(b n:Int)(w:World):
 Calls Tryz.prog 41 #[.int .i64 b,.int .i64 n] w λe w'=>e=.returned (.int .i64 (mk b n))/\w=w':=by
 rcases a:Qz b with _|_
 ·have E:=Zh (show mk b n=0 by rw[mk,if_neg (by rw[a];simp)])
  have c:=Zh a;clear a;go_enter Tryz.func41,Tryz.ntmps41;go_wp2_with fail;refine(Vr b w).mono ?_;rw[c.o];rintro e d ⟨rfl,rfl⟩;go_wp2;go_ret;exact⟨by rw[E.o];rfl,rfl⟩
 ·have j:0<b/\b<=8:=by simpa[Qz] using a
  have c:=Zh a;by_cases h:n<1
  ·have E:=Zh (show mk b n=0 by rw[mk,if_neg (by omega)])
   clear a;go_enter Tryz.func41,Tryz.ntmps41;go_wp2_with fail;refine(Vr b w).mono ?_;rw[c.o];rintro e d ⟨rfl,rfl⟩;go_wp2;go_ret;exact⟨by rw[E.o];rfl,rfl⟩
  ·by_cases i:n>=4294967296
   ·have E:=Zh (show mk b n=0 by rw[mk,if_neg (by omega)])
    clear a;go_enter Tryz.func41,Tryz.ntmps41;go_wp2_with fail;refine(Vr b w).mono ?_;rw[c.o];rintro e d ⟨rfl,rfl⟩;go_wp2;go_ret;exact⟨by rw[E.o];rfl,rfl⟩
   ·have E:=Zh (show mk b n=b*4294967296+n by rw[mk,if_pos ⟨a,by omega,by omega⟩])
    obtain⟨s,f⟩:=Zx (b*4294967296);have k:IntKind.i64.wrap (b*4294967296)=s:=by rw[IntKind.wrap_i64];omega
    have l:IntKind.i64.wrap (s+n)=s+n:=by rw[IntKind.wrap_i64];omega
    have g:=Zh f;clear a f;go_enter Tryz.func41,Tryz.ntmps41;go_wp2_with fail;refine(Vr b w).mono ?_;rw[c.o];rintro e d ⟨rfl,rfl⟩;go_wp2;go_ret;exact⟨by rw[E.o,<-g.o];rfl,rfl⟩
end Go.Proofs.YtkdpmdfcdgphlaaGreat
namespace Go.Proofs.YtkdpmdfcdgphlaaGreat
open Go.RowKit Go.Mem Go.Po
section
variable {n n' : Nat} {A O : Nat → Prop} {w0 w w' : World} {cb pb kb db : Nat} {b b' : Br}
theorem At.rise(h:At O b n w0 w cb pb kb db)(d:n+b.s.tx.toNat<199):
 Calls Tryz.prog 40 #[.pointer (some ⟨cb,0,none⟩)] w λe w'=>e=.returned (.int .i64 (riseX b).1)/\∃a,At a (riseX b).2 (n+b.s.tx.toNat) w0 w' cb pb kb db/\Moves O a w w':=
 At.turn h λa c=>rise_any b a c d
end
end Go.Proofs.YtkdpmdfcdgphlaaGreat

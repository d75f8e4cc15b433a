/- Part of this claim's proof. Conditions: as its theorems say. -/
import Derived.Test.YtkdpmdfcdgphlaaGreatM2
import Derived.Test.YtkdpmdfcdgphlaaGreatWLRoom
import Derived.Test.YtkdpmdfcdgphlaaGreatWAtX
import Derived.Test.YtkdpmdfcdgphlaaGreatWArgsI
import Derived.Test.YtkdpmdfcdgphlaaGreatM39
set_option linter.all false
namespace Go.Po
def oA(v:Nat->Nat):Array Value:=#[.int .i64 (v 0:Nat),.int .i64 (v 1:Nat),.int .i64 (v 2:Nat),.int .i64 (v 3:Nat),.int .i64 (v 4:Nat)]
def vO(p:Nat):Array Value:=#[.bool (p==0),.bool (p==1),.bool (p==2),.bool (p==3),.bool (p==4)]
theorem oA_get(v:Nat->Nat):∀j,j<5->(oA v)[j]?=some (.int .i64 (v j:Nat)):=five rfl rfl rfl rfl rfl
theorem oA_set(v:Nat->Nat)(x:Nat):∀j,j<5->(oA v).setIfInBounds j (.int .i64 x)=oA (upd v j x):=five rfl rfl rfl rfl rfl
theorem vO_get(p:Nat):∀j,j<5->(vO p)[j]?=some (.bool (p==j)):=five rfl rfl rfl rfl rfl
theorem vO_set:∀j,j<5->(vO 5).setIfInBounds j (.bool true)=vO j:=five rfl rfl rfl rfl rfl
theorem sum_upd(v:Nat->Nat):∀j,j<5->sumV (upd v j (v j+1))=sumV v+1:=by
 refine five ?_ ?_ ?_ ?_ ?_<;>(simp[sumV,upd];try omega)
theorem rem_5j(x:Int):∃j:Nat,j<5/\Int.tmod (Int.tmod x 5+5) 5=(j:Int)/\IntKind.i64.wrap (Int.tmod x 5+5)=Int.tmod x 5+5:=by
 have a:-5<Int.tmod x 5/\Int.tmod x 5<5:=⟨by have:=Int.lt_tmod_of_pos x (b:=5) (by omega);omega,Int.tmod_lt_of_pos x (by omega)⟩;have c:0<=Int.tmod (Int.tmod x 5+5) 5:=Int.tmod_nonneg _ (by omega);have d:Int.tmod (Int.tmod x 5+5) 5<5:=Int.tmod_lt_of_pos _ (by omega);exact⟨(Int.tmod (Int.tmod x 5+5) 5).toNat,by omega,by omega,by rw[IntKind.wrap_i64];omega⟩
end Go.Po
namespace Go.Proofs.YtkdpmdfcdgphlaaGreat
open Go.RowKit Go.Mem Go.Po
section
variable {n : Nat} {X O : Nat → Prop} {w0 w w' : World} {cb pb kb db : Nat} {b : Br}
theorem AtX.put(h:AtX X O b n w0 w cb pb kb db)(g:n<199)(t:Int)(d:i64 t)(p:Put)(c:p.q.size<=maxLen):
 Calls Tryz.prog 19 #[.pointer (some ⟨pb,0,none⟩),.int .i64 t,.agg #[.string p.q,.string p.b]] w λe w'=>e=.returned (.int .i64 (Ga b.s b.G t p))/\∃a,AtX X a (Qer b t p) (n+1) w0 w' cb pb kb db/\Moves O a w w':=
 AtX.turn h λa f=>Rc a rfl λa a=>Qni a (by omega) t d p c
theorem AtX.prep(h:AtX X O b n w0 w cb pb kb db)(f:n<199)(t:Int)(g:i64 t)(c:Int):
 Calls Tryz.prog 21 #[.pointer (some ⟨pb,0,none⟩),.int .i64 t,.int .i64 c] w λe w'=>e=.returned (.tuple #[.bool (Ku b.l b.s b.G t c).1.1,.int .i64 (Ku b.l b.s b.G t c).1.2])/\∃a,AtX X a (Gx b t c) (n+1) w0 w' cb pb kb db/\Moves O a w w':=
 AtX.turn h λa d=>Rc a (Qja _ _ _ _ _) λa a=>Qfu a d f t g c
end
set_option maxHeartbeats 16000000 in
set_option maxRecDepth 100000 in
theorem partRoomL_any(n:Int)(ai:Option Addr)(y aP:Nat)(Z:Nat->Int)(w:World)(d:Tv w ai y (λk=>.int .i64 (Z k))):
 Calls Tryz.prog 6 #[.int .i64 n,.slice ai y aP] w λe w'=>e=.returned (.bool true)/\Bel w w':=by
 obtain⟨aB,av⟩:=Zh2 (show pq.q.size<=maxLen by simp[maxLen,pq,ByteArray.size]) d;have aN:=d.1;simp only[maxLen]at aN;clear d;go_enter Tryz.func6,Tryz.ntmps6;go_wp2_with fail;refine(Qci w).zR λh d=>?_
 have R:=Zh d;clear d;go_wp2_with fail;refine(R7 1 rfl h).mono ?_;rintro e Q ⟨kb,pb,cb,db,O,rfl,f,b2,d⟩;have aC:=Zh (show At O (rmB (λ_=>0) 5) 0 h Q cb pb kb db from⟨f,d,b2⟩);clear f b2 d;obtain⟨G,d⟩:∃G,G=(Q.alloc (.cells (#[.int .i64 0,.int .i64 0,.int .i64 0,.int .i64 0,.int .i64 0]) 68)).alloc (.cells (#[.bool false,.bool false,.bool false,.bool false,.bool false]) 69):=⟨_,rfl⟩;obtain⟨g,f⟩:∃g,g=Q.heap.size:=⟨_,rfl⟩;have o:AtX (λk=>k=g\/k=g+1) O (rmB (λ_=>0) 5) 0 h G cb pb kb db:=by
  have:=AtX.more (AtX.new aC.o (.cells (#[.int .i64 0,.int .i64 0,.int .i64 0,.int .i64 0,.int .i64 0]) 68)) (.cells (#[.bool false,.bool false,.bool false,.bool false,.bool false]) 69);rw[d,f];simpa using this
 have l:G.heap[g]?=some (.cells (oA λ_=>0) 68 (0,0)):=by rw[d,f];exact Ke _ _ _
 have k3:G.heap[g+1]?=some (.cells (vO 5) 69 (0,0)):=by rw[d,f];exact Jc _ _ _
 obtain⟨aD,al,ay,aw,ap⟩:=Zh5 o l k3 d f;clear d f o l k3;go_upto_region 11 with (fail);rw[<-ap.o,<-aw.o];go_loopw[9,12] (λa c wr=>∃(m:Nat) (v:Nat->Nat) (p N:Nat) (O:Nat->Prop),m<=30/\c=.int .i64 m/\a=.int .i64 (sumV v:Nat)/\Hid (p<6/\sumV v<=12/\(∀j,j<5->v j<=10)/\(p<5->n<m)/\N<=2*m)/\Hid (AtX (λk=>k=g\/k=g+1) O (rmB v p) N h wr cb pb kb db)/\Hid (wr.heap[g]?=some (.cells (oA v) 68 (0,0)))/\Hid (wr.heap[g+1]?=some (.cells (vO p) 69 (0,0)))) (λ_ c _=>30-(intOf c).toNat)
 case atStart=>exact⟨0,λ_=>0,5,0,O,by omega,rfl,rfl,Zh ⟨by omega,by decide,λ_ _=>Nat.zero_le _,by omega,by omega⟩,aD,al,ay⟩
 case round=>
  obtain⟨m,v,p,N,aQ,aU,rfl,rfl,h,F,ao,a9⟩:=hrel;by_cases af:m<y/\m<30
  case neg=>
   rcases Nat.lt_or_ge m y with M|M
   case' inl=>have aJ:¬((m:Int)<30):=by omega
   case' inl=>have ad:(m:Int)<(y:Int):=by omega
   case' inr=>have ad:¬((m:Int)<(y:Int)):=by omega
   all_goals
    clear af;go_wp2;go_ret;exact⟨rfl,R.trans F.2.2.1⟩
  obtain⟨M,aJ⟩:=af;have ad:(m:Int)<(y:Int):=by omega
  have aR:(m:Int)<30:=by omega
  have ac:(0:Int)<=(m:Int):=by omega
  obtain⟨aX,aY,aO,aW,l⟩:=(av.bel (R.trans F.2.2.1)).2 (by omega);have x:=l m M;obtain⟨j,f,o,s⟩:=rem_5j (Z m);obtain⟨t,d⟩:∃t,tj j=t:=⟨_,rfl⟩;have q:IntKind.i64.wrap (8589934593+(j:Int))=t:=by rw[<-d,tj,IntKind.wrap_i64];omega
  subst aO;clear l;go_upto_region 15 with (fail);clear o s x q;have A:=h.1;have C:=h.2.1;have z:=AtX.put F.o (by have:=h.2.2.2.2;omega) t (by rw[<-d];exact(tid_tj j f).2.2) pq aB.o;rw[<-d,put_rmB v A f C,brPut_rmB v A f C,d]at z;obtain⟨c1,l⟩:∃c1,c1=decide (sumV v<12):=⟨_,rfl⟩;obtain⟨c2,s⟩:∃c2,c2=decide (v j<10):=⟨_,rfl⟩;obtain⟨c3,x⟩:∃c3,c3=(p==j):=⟨_,rfl⟩;obtain⟨r,B⟩:∃r:Int,r=if (p==j)=true then 9 else if (decide (10<=v j)||decide (12<=sumV v))=true then 5 else 0:=⟨_,rfl⟩
  obtain⟨o,q⟩:∃o,o=(c1&&c2&&!c3):=⟨_,rfl⟩;rw[<-B,<-l,<-s,<-x,<-q]at z;have aV:(r==0)=o:=by
   rw[B,q,l,s,x];rcases (p==j)with _|_
   ·by_cases a:v j<10<;>by_cases b:sumV v<12
    all_goals
     have D:decide (10<=v j)=!decide (v j<10):=by rw[<-decide_not];exact decide_eq_decide.2 (by omega)
     have E:decide (12<=sumV v)=!decide (sumV v<12):=by rw[<-decide_not];exact decide_eq_decide.2 (by omega)
     rw[D,E];simp[a,b]
   ·simp
  obtain⟨au,aj,ak,S,U,L⟩:=Zh6 z l s x q d;have J:decide ((sumV v:Int)<12)=c1:=by rw[l];exact decide_eq_decide.2 (by omega)
  have K:decide ((v j:Int)<10)=c2:=by rw[s];exact decide_eq_decide.2 (by omega)
  have aS:(0:Int)<=(j:Int):=by omega
  have aT:(j:Int)<5:=by omega
  clear z B l s x q d A C;go_wp2_with fail;refine au.mono ?_;rintro e B ⟨rfl,X,z,x⟩;have aE:=Zh z;have d:=Moves.heap x (λl=>(F.2.1 g l).2 (.inl rfl)) ao;have s:=Moves.heap x (λl=>(F.2.1 (g+1) l).2 (.inr rfl)) a9;obtain⟨C,W⟩:=Zh2 d s;have H:=cell_of_block d j _ (oA_get v j f);have I:=cell_of_block s j _ (vO_get p j f);rw[<-S.o]at I;clear z x d s;go_upto_region 16 with (fail);go_cut[16] (λb d=>b=.bool o/\Hid (B=d))
  case first=>
   have q:=U.o;rcases c1 with _|_<;>rcases c2 with _|_<;>rcases c3 with _|_
   all_goals
    subst q;go_wp2;go_meet
    case rel=>exact⟨rfl,Zh rfl⟩
  case rest=>
   obtain⟨rfl,d⟩:=hcut;have aH:=d.o;subst aH;clear d H I;have aM:∃d,(if o=true then rmB (upd v j (v j+1)) p else rmB v p)=rmB d p/\d=if o=true then upd v j (v j+1) else v:=by
    rcases o with _|_
    ·exact⟨v,rfl,rfl⟩
    ·exact⟨_,rfl,rfl⟩
   obtain⟨d,D,x⟩:=aM;have z:=aE.o;rw[D]at z;obtain⟨Y,T⟩:=Zh2 z x;have E:sumV d<=12/\(∀i,i<5->d i<=10)/\(p<5->o=true->j≠p):=by
    have s:=h.o;have A:=U.o;rw[x];rcases o with _|_
    ·exact⟨s.2.1,s.2.2.1,λ_ l=>by cases l⟩
    ·rw[aj.o,ak.o,S.o]at A
     have A:=A.symm;simp only[Bool.and_eq_true,decide_eq_true_eq,Bool.not_eq_true',beq_eq_false_iff_ne]at A;obtain⟨⟨a1,a2⟩,a3⟩:=A;refine⟨by rw[if_pos rfl,sum_upd v j f];omega,λi P=>?_,λ_ _ e=>a3 e.symm⟩;rw[if_pos rfl];unfold upd;split
     ·omega
     ·exact s.2.2.1 i P
   have s:=Zh E;clear z D x E J K;rcases o with _|_
   case' false=>
    obtain rfl:d=v:=T.o;have z:=Y;have D:=C;have E:=W;obtain⟨J,rfl⟩:∃J,J=B:=⟨_,rfl⟩;go_upto_region 22 with (fail)
   case' true=>
    have P:d=upd v j (v j+1):=T.o;have ah:IntKind.i64.wrap ((sumV v:Int)+1)=((sumV d:Nat):Int):=by rw[IntKind.wrap_i64,P,sum_upd v j f];have:=h.2.1;omega
    have am:IntKind.i64.wrap ((v j:Int)+1)=((v j+1:Nat):Int):=by rw[IntKind.wrap_i64];have:=h.2.2.1 j f;omega
    have aa:=Qa C j;have H:=cell_of_block C j _ (oA_get v j f);have ae:=Qb C;obtain⟨J,K⟩:∃x,x=B.setCell ⟨g,j,none⟩ (.int .i64 ((v j+1:Nat):Int)):=⟨_,rfl⟩;have ab:J.heap[g]?=some (.cells (oA d) 68 (0,0)):=by
     rw[K,Yp B g j _ C.o,oA_set v _ j f,P]
    have x:=K▸Kept.set1 B g j (.int .i64 ((v j+1:Nat):Int));obtain⟨z,D,E,V⟩:=Zh4 (AtX.set Y.o (g:=g) (.inl rfl) x) ab (x.heap (by omega) W.o) K;clear ab x K P;go_upto_region 22 with (fail);rw[show B.setCell ⟨g,j,none⟩ (.int .i64 ((v j:Int)+1))=J from V.symm];clear ah am aa ae H V
   all_goals
    have A:IntKind.i64.wrap ((m:Int)+1)=((m+1:Nat):Int):=by rw[IntKind.wrap_i64];omega
    by_cases J:(m:Int)=n
    case neg=>
     have aL:((m:Int)==n)=false:=by simpa using J
     go_wp2;go_roundw
     case rel=>exact⟨m+1,d,p,N+1,X,by omega,by go_num,rfl,Zh ⟨h.1,s.1,s.2.1,λl=>by have:=h.2.2.2.1 l;omega,by have:=h.2.2.2.2;omega⟩,z,D,E⟩
     case measure=>simp[intOf];omega
    have aL:((m:Int)==n)=true:=by simpa using J
    obtain rfl:p=5:=by have:=h.1;have:=h.2.2.2.1;omega
    have H:=cell_of_block D j _ (oA_get d j f);have aK:(5==j)=false:=by simp;omega
    have I:=cell_of_block E j _ (vO_get 5 j f);rw[aK]at I;by_cases aI:0<d j
    case neg=>
     have ac:¬((0:Int)<(d j:Int)):=by omega
     clear J;go_wp2;go_roundw
     case rel=>exact⟨m+1,d,5,N+1,X,by omega,by go_num,rfl,Zh ⟨by omega,s.1,s.2.1,by omega,by have:=h.2.2.2.2;omega⟩,z,D,E⟩
     case measure=>simp[intOf];omega
    have ac:(0:Int)<(d j:Int):=by omega
    have K:=AtX.prep z.o (by have:=h.2.2.2.2;omega) t (by rw[<-L.o];exact(tid_tj j f).2.2) (d j:Nat);obtain⟨P,V⟩:=prep_rmB d f aI (s.2.1 j f);rw[<-L.o,P,V,L.o]at K;obtain⟨ar,aq⟩:=Zh2 K J;clear K P V J;go_wp2_with fail;refine ar.mono ?_;rintro e w8 ⟨rfl,aA,ah,K⟩;have V:=Moves.heap K (λl=>(z.2.1 g l).2 (.inl rfl)) D;have J:=Moves.heap K (λl=>(z.2.1 (g+1) l).2 (.inr rfl)) E;obtain⟨aF,am,az⟩:=Zh3 ah V J;have aa:=Qa J j;have I:=cell_of_block J j _ (vO_get 5 j f);have ae:=Qb J;obtain⟨P,l⟩:∃P,P=w8.setCell ⟨g+1,j,none⟩ (.bool true):=⟨_,rfl⟩;have ab:P.heap[g+1]?=some (.cells (vO j) 69 (0,0)):=by
     rw[l,Yp w8 (g+1) j _ az.o,vO_set j f]
    have x:=l▸Kept.set1 w8 (g+1) j (.bool true);obtain⟨aG,a8,an,ax⟩:=Zh4 (AtX.set aF.o (g:=g+1) (.inr rfl) x) ab (x.heap (by omega) am.o) l;clear ah K V J H ab x l;go_wp2;rw[<-ax.o];go_roundw
    case rel=>exact⟨m+1,d,j,N+1+1,aA,by omega,by go_num,rfl,Zh ⟨by omega,s.1,s.2.1,λ_=>by have:=aq.o;omega,by have:=h.2.2.2.2;omega⟩,aG,an,a8⟩
    case measure=>simp[intOf];omega
end Go.Proofs.YtkdpmdfcdgphlaaGreat

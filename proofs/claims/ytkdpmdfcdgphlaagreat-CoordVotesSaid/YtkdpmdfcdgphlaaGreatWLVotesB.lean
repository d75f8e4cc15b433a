/- Part of this claim's proof. Conditions: as its theorems say. -/
import Derived.Test.YtkdpmdfcdgphlaaGreatM2
import Derived.Test.YtkdpmdfcdgphlaaGreatWLVotes
import Derived.Test.YtkdpmdfcdgphlaaGreatWAtB
import Derived.Test.YtkdpmdfcdgphlaaGreatWAtX
import Derived.Test.YtkdpmdfcdgphlaaGreatWArgsI
import Derived.Test.YtkdpmdfcdgphlaaGreatM39
set_option linter.all false
namespace Go.Po
def vA(S:Nat):Array Value:=#[.bool false,.bool false,.bool (S.testBit 0),.bool (S.testBit 1),.bool (S.testBit 2),.bool (S.testBit 3),.bool (S.testBit 4),.bool (S.testBit 5),.bool false,.bool false]
theorem rem_q(x:Int):∃(q:Nat) (r:Int),0<q/\q<7/\(Int.tmod (Int.tmod x 6+6) 6)=r/\IntKind.i64.wrap (Int.tmod x 6+6)=Int.tmod x 6+6/\IntKind.i64.wrap (1+r)=(q:Int):=by
 have a:-6<Int.tmod x 6/\Int.tmod x 6<6:=⟨by have:=Int.lt_tmod_of_pos x (b:=6) (by omega);omega,Int.tmod_lt_of_pos x (by omega)⟩;have c:0<=Int.tmod (Int.tmod x 6+6) 6:=Int.tmod_nonneg _ (by omega);have d:Int.tmod (Int.tmod x 6+6) 6<6:=Int.tmod_lt_of_pos _ (by omega);refine⟨(1+Int.tmod (Int.tmod x 6+6) 6).toNat,_,by omega,by omega,rfl,by rw[IntKind.wrap_i64];omega,?_⟩;rw[IntKind.wrap_i64];omega
theorem rem_8(x:Int):∃(f:Nat) (r:Int),0<f/\f<9/\(Int.tmod (Int.tmod x 8+8) 8)=r/\IntKind.i64.wrap (Int.tmod x 8+8)=Int.tmod x 8+8/\IntKind.i64.wrap (1+r)=(f:Int):=by
 have a:-8<Int.tmod x 8/\Int.tmod x 8<8:=⟨by have:=Int.lt_tmod_of_pos x (b:=8) (by omega);omega,Int.tmod_lt_of_pos x (by omega)⟩;have c:0<=Int.tmod (Int.tmod x 8+8) 8:=Int.tmod_nonneg _ (by omega);have d:Int.tmod (Int.tmod x 8+8) 8<8:=Int.tmod_lt_of_pos _ (by omega);refine⟨(1+Int.tmod (Int.tmod x 8+8) 8).toNat,_,by omega,by omega,rfl,by rw[IntKind.wrap_i64];omega,?_⟩;rw[IntKind.wrap_i64];omega
theorem shs_take{q i:Nat}(h:i<q)(n:Int):(shs q n).take (i+1)=(shs q n).take i++[⟨2+(i:Int),n⟩]:=by
 rw[List.take_add_one];simp[shs,h]
theorem vA_get(S:Nat):∀t,t<6->(vA S)[2+t]?=some (.bool (S.testBit t))
 | 0,_=>rfl
 | 1,_=>rfl
 | 2,_=>rfl
 | 3,_=>rfl
 | 4,_=>rfl
 | 5,_=>rfl
theorem tb(S t j:Nat):(S ||| 2 ^ t).testBit j=(S.testBit j||decide (t=j)):=by rw[Nat.testBit_or,Nat.testBit_two_pow]
theorem vA_set(S:Nat):∀t,t<6->(vA S).setIfInBounds (2+t) (.bool true)=vA (S ||| 2 ^ t)
 | 0,_=>by unfold vA;rw[tb,tb,tb,tb,tb,tb];simp
 | 1,_=>by unfold vA;rw[tb,tb,tb,tb,tb,tb];simp
 | 2,_=>by unfold vA;rw[tb,tb,tb,tb,tb,tb];simp
 | 3,_=>by unfold vA;rw[tb,tb,tb,tb,tb,tb];simp
 | 4,_=>by unfold vA;rw[tb,tb,tb,tb,tb,tb];simp
 | 5,_=>by unfold vA;rw[tb,tb,tb,tb,tb,tb];simp
def allB(S t:Nat):Bool:=(List.range t).all λj=>S.testBit j
theorem allB_succ(S t:Nat):allB S (t+1)=(allB S t&&S.testBit t):=by
 unfold allB;rw[List.range_succ,List.all_append];simp
theorem v_all:∀q,q<7->∀S,S<2 ^ q->allB S q=decide (S=2 ^ q-1):=by decide +kernel
theorem v_or:∀q,q<7->∀S,S<2 ^ q->∀j,j<q->S ||| 2 ^ j<2 ^ q:=by decide +kernel
theorem v_step{q a S f:Nat}(g:q<7)(h:0<q)(j:a=2\/a=3\/a=4)(i:a=2->S<2 ^ q-1)(e:f<9)(no:Bool):
 (Bw (vSt q 1 a S) f u17 (!no)).1.1.length=(vNx q a S f no).2.2/\(Bw (vSt q 1 a S) f u17 (!no)).1.2=0/\(Bw (vSt q 1 a S) f u17 (!no)).2=vSt q 1 (vNx q a S f no).1 (vNx q a S f no).2.1:=by
 rcases j with rfl|rfl|rfl
 ·obtain⟨b,c,d⟩:=v_ask q g h S (i rfl) no f e
  exact⟨b,c,eqBr_eq d⟩
 ·obtain⟨b,c,d⟩:=v_end q g h true no f e
  exact⟨b,c,eqBr_eq d⟩
 ·obtain⟨b,c,d⟩:=v_end q g h false no f e
  exact⟨b,c,eqBr_eq d⟩
theorem v_says{q a S:Nat}(l:q<7)(m:0<q)(k:a=2\/a=3\/a=4):Qcz (vSt q 1 a S) u17=a/\((vSt q 1 a S).s.noes.length=if a=4 then 1 else 0)/\((vSt q 1 a S).s.opens.length=if a=2 then 1 else 0):=by
 obtain⟨b,c,d,e,f,g,h,i,j⟩:=v_word q l m;rcases k with rfl|rfl|rfl
 ·exact⟨b,e,f⟩
 ·exact⟨c,g,h⟩
 ·exact⟨d,i,j⟩
end Go.Po
namespace Go.Proofs.YtkdpmdfcdgphlaaGreat
open Go.RowKit Go.Mem Go.Po
theorem el_share:El Tryz.prog 71 73 2 16:=El.mk' Tryz.underlying71 (z:=.agg #[.int .i64 0,.int .i64 0]) (by kernel_rfl) rfl
theorem srcSh(w:World){b:Nat}(x:Kr){T:TypeId}{c:Nat×Nat}(h:w.heap[b]?=some (.cells #[.int .i64 x.to,.int .i64 x.n] T c)):Src Tryz.prog 2 71 (.slice (some ⟨b,0,none⟩) 1 1) 1 [.int .i64 x.to,.int .i64 x.n] w:=
 Src.ofSlice w Tryz.underlying71 ⟨b,0,none⟩ 1 1 [.int .i64 x.to,.int .i64 x.n] rfl (λj d a=>by
  have:=cell_of_block h j d (by simpa using a);rw[Addr.add_lit,Nat.zero_add];exact this) (λv a=>by simp only[List.mem_cons,List.not_mem_nil,or_false]at a;rcases a with rfl|rfl<;>rfl)
set_option maxHeartbeats 16000000 in
set_option maxRecDepth 100000 in
theorem coordVotesL_any(aF:Int)(vo:Option Addr)(y bm:Nat)(av:Nat->Int)(no:Option Addr)(M bl:Nat)(F:Nat->Bool)(w:World)(h:Tv w vo y (λk=>.int .i64 (av k)))(d:Tv w no M (λk=>.bool (F k))):
 Calls Tryz.prog 7 #[.int .i64 aF,.slice vo y bm,.slice no M bl] w λe w'=>e=.returned (.bool true)/\Bel w w':=by
 obtain⟨E,aP,aN⟩:=Zh3 (show i64 u17 by simp[i64,u17]) h d;have bi:=h.1;have al:=d.1;simp only[maxLen]at bi al;clear h d;go_enter Tryz.func7,Tryz.ntmps7;go_wp2_with fail;refine(Qci w).zR λd h=>?_
 have aa:=Zh h;clear h;obtain⟨q,r,B,v,j,l,o⟩:=rem_q aF;obtain⟨W,X,h⟩:=v_com q v B;have aJ:=Zh (eqBr_eq h);go_upto_region 5 with (fail);clear j l o h;go_wp2_with fail;refine(R7 1 rfl d).mono ?_;rintro e bn ⟨J,N,G,H,O,rfl,j,b2,h⟩;have aT:=Zh (show At O a0 0 d bn G N J H from⟨j,h,b2⟩);clear j b2 h;go_wp2_with fail;refine(At.begins aT.o (by omega)).mono ?_;rw[Qx0];rintro e C ⟨rfl,aS,h,-⟩;obtain⟨aU,ap⟩:=Zh2 (show At aS k1 1 d C G N J H from h) (And.intro W X);clear h W X;go_upto_region 11 with (fail);go_loopw[13,14] (λs a wr=>∃(i:Nat) (L:Option Addr) (K:Nat),i<=q/\a=.int .i64 i/\s=.slice L i K/\Hid (Own Fx (λk=>k<C.heap.size) C wr 73 L K ((shs q 1).take i))/\Hid (Bel C wr)) (λ_ a _=>q-(intOf a).toNat)
 case atStart=>exact⟨0,none,0,Nat.zero_le _,rfl,rfl,Zh (Own.nil _ _ _ _ _),Zh (Bel.refl _)⟩
 case round=>
  obtain⟨i,L,K,bz,rfl,rfl,aj,ai⟩:=hrel;by_cases be:i<q
  ·have bk:IntKind.i64.wrap ((i:Int)+1)=((i+1:Nat):Int):=by rw[IntKind.wrap_i64];omega
   have I:IntKind.i64.wrap (2+(i:Int))=2+(i:Int):=by rw[IntKind.wrap_i64];omega
   have h:i=((shs q 1).take i).length:=by simp[shs];omega
   have p:=Zh h;clear h;go_wp2_with(at_builtin;go_must (refine Xe (r:=Fx) (A:=λk=>k<C.heap.size) (w0:=C) _ rfl _ _ 71 71 rfl el_share L i K ((shs q 1).take i) p.o (aj.bel ((Bel.refl _).alloc _)) rfl _ rfl [⟨2+(i:Int),1⟩] [.int .i64 (2+(i:Int)),.int .i64 1] (Ch.one rfl rfl) (srcSh _ ⟨2+(i:Int),1⟩ (heap_alloc_new _ _)) (by simp;omega) (by omega) (by have:=ai.size;simp;omega) ?_);intro z D aG j h l;have x:=Zh j;have o:=Zh h;clear j h l);go_roundw
   case rel=>exact⟨i+1,z,D,by omega,by go_num,by simp,by rw[shs_take be];exact x,Zh ((ai.alloc _).of_kept o.o λk l=>by obtain⟨_,_,_,h⟩:=aj.o;exact h k l)⟩
   case measure=>simp[intOf];omega
  obtain rfl:i=q:=by omega
  have o:(shs i 1).length=i:=by simp[shs]
  have j:=aj.o;rw[List.take_of_length_le (by omega)]at j;have h:=At.commit aU.o ai.o (by omega) u17 E.o (shs i 1) L K (j.rd λk l=>l) (by omega);rw[ap.1,ap.2,o]at h;have aK:=Zh h;have l:=v_word i v B;have ad:=Zh l;clear h o j l;go_wp2_with fail;refine aK.mono ?_;rintro e aG ⟨br,bs,ae,rfl,h,-,-⟩;have au:=Zh (show At ae (vB i 1 0) 2 d aG G N J H by rw[<-aJ.o];exact h);have o:=At.word au u17 E;rw[ad.1]at o;have D:=Zh o;clear h o;go_wp2_with fail;refine D.zR λl h=>?_
  have aV:=Zh (At.bel au h);clear h;obtain⟨aw,h⟩:=Zx (l.alloc (.cells (#[.bool false,.bool false,.bool false,.bool false,.bool false,.bool false,.bool false,.bool false,.bool false,.bool false]) 74));obtain⟨g,j⟩:=Zx l.heap.size;have p:AtX (λk=>k=g) ae (vSt i 1 2 0) 2 d aw G N J H:=by rw[h,j];exact AtX.new aV.o _
  have l:aw.heap[g]?=some (.cells (vA 0) 74 (0,0)):=by rw[h,j];exact heap_alloc_new _ _
  obtain⟨aW,aH,aQ,aL⟩:=Zh4 p l h j;clear h j p l;go_upto_region 20 with (fail);rw[<-aL.o,<-aQ.o];go_loopw[18,19] (λl a wr=>∃(m j S:Nat) (O:Nat->Prop),m<=20/\a=.int .i64 m/\l=.int .i64 j/\(j=2\/j=3\/j=4)/\Hid (j=2->S<2 ^ i-1)/\Hid (AtX (λk=>k=g) O (vSt i 1 j S) (2+2*m) d wr G N J H)/\Hid (wr.heap[g]?=some (.cells (vA S) 74 (0,0)))) (λ_ a _=>20-(intOf a).toNat)
  case atStart=>exact⟨0,2,0,ae,by omega,rfl,rfl,.inl rfl,Zh λ_=>by have:=Nat.one_lt_two_pow (n:=i) (by omega);omega,aW,aH⟩
  case round=>
   obtain⟨m,j,S,bq,b0,rfl,rfl,I,ak,x,ao⟩:=hrel;by_cases aE:m<y/\m<20
   ·obtain⟨ah,bb⟩:=aE
    have a8:(m:Int)<(y:Int):=by omega
    have bw:(m:Int)<20:=by omega
    have bv:(0:Int)<=(m:Int):=by omega
    obtain⟨bB,bC,bj,b5,d⟩:=(aP.bel (aa.trans x.2.2.1)).2 (by omega);have P:=d m ah;obtain⟨f,bA,bx,bc,h,p,z⟩:=rem_8 (av m);subst bj;clear d;go_upto_region 23 with (fail);clear h p z P;go_cut[21] (λb d=>∃p:Bool,b=.bool p/\Hid (wr=d))
    case first=>
     by_cases al:m<M
     ·have h:(m:Int)<(M:Int):=by omega
      obtain⟨p,Q,z,P,d⟩:=(aN.bel (aa.trans x.2.2.1)).2 (by omega);have U:=d m al;subst z;clear d;go_wp2;go_meet
      case rel=>exact⟨F m,rfl,Zh rfl⟩
     ·have h:¬((m:Int)<(M:Int)):=by omega
      go_wp2;go_meet
      case rel=>exact⟨false,rfl,Zh rfl⟩
    case rest=>
     obtain⟨p,rfl,d⟩:=hcut;have aZ:=d.o;subst aZ;clear d;have bd:i64 (f:Int):=⟨by omega,by omega⟩;have d:=v_step (q:=i) v B I ak bc p;obtain⟨an,z⟩:=Zx (vNx i j S f p);rw[<-z]at d;have h:=AtX.vote x.o (by omega) f bd u17 E.o (!p);rw[d.1,d.2.1,d.2.2]at h;obtain⟨ar,aq⟩:=Zh2 h z;have b8:((0:Int)==(i:Int))=false:=by simp;omega
     have b9:((i:Int)==0)=false:=by simp;omega
     have b6:IntKind.i64.wrap (2+(i:Int))=2+(i:Int):=by rw[IntKind.wrap_i64];omega
     have bk:IntKind.i64.wrap ((m:Int)+1)=((m+1:Nat):Int):=by rw[IntKind.wrap_i64];omega
     obtain⟨c1,W⟩:∃c1,decide ((2:Int)<=(f:Int))=c1:=⟨_,rfl⟩;have aA:decide (2<=f)=c1:=by rw[<-W];exact decide_eq_decide.2 (by omega)
     obtain⟨c2,X⟩:∃c2,decide ((f:Int)<2+(i:Int))=c2:=⟨_,rfl⟩;have aB:decide (f<2+i)=c2:=by rw[<-X];exact decide_eq_decide.2 (by omega)
     clear h d z;by_cases Z:j=2/\2<=f/\f<2+i
     case neg=>
      have U:an=(j,S,0):=by rw[aq.o,vNx,if_neg Z]
      subst U;have d:j=2->c1=true->c2=true->False:=λa b c=>Z ⟨a,of_decide_eq_true (aA.trans b),of_decide_eq_true (aB.trans c)⟩
      have ad:=Zh (v_says (S:=S) v B I).1;clear Z;rcases I with rfl|rfl|rfl<;>rcases c1 with _|_<;>rcases c2 with _|_
      all_goals try (exact(d rfl rfl rfl).elim)
      all_goals
       clear d;go_wp2_with fail;refine ar.mono ?_;rintro e w8 ⟨aX,aY,af,rfl,d,-,P⟩;obtain⟨R,h⟩:=Zh2 d (Moves.heap P (λl=>(x.2.1 g l).2 rfl) ao.o);have o:=AtX.word R u17 E;rw[ad.o]at o;have D:=Zh o;clear d P o;go_wp2_with fail;refine D.zR λbo z=>?_
       obtain⟨T,Q⟩:=Zh2 (AtX.bel R.o z) (z.heap h.o);clear z;go_wp2;go_roundw
       case rel=>exact⟨m+1,_,S,af,by omega,by go_num,rfl,by simp,Zh λ_=>ak.o (by trivial),T,Q⟩
       case measure=>simp[intOf];omega
     obtain⟨rfl,ay,az⟩:=Z;have ax:=ak rfl;obtain rfl:c1=true:=by rw[<-aA];simpa using ay
     obtain rfl:c2=true:=by rw[<-aB];simpa using az
     obtain⟨t,am⟩:∃t,f=2+t:=⟨f-2,by omega⟩;have bh:t<i:=by omega
     obtain⟨h,U⟩:=Zx (S ||| 2 ^ t);have V:=v_or i v S (by omega) t bh;rw[<-U]at V;have Y:an=if p=true then (4,h,i) else if h=2 ^ i-1 then (3,h,i) else (2,h,0):=by rw[aq.o,vNx,if_pos ⟨rfl,ay,az⟩,show f-2=t by omega,<-U]
     obtain⟨ab,aI,aO,ac⟩:=Zh4 Y (v_all i v h V) V (And.intro am U);have bu:(f:Int)<10:=by omega
     have bt:(0:Int)<=(f:Int):=by omega
     clear V Y am U ax;go_wp2_with fail;refine ar.mono ?_;rintro e w8 ⟨aX,aY,af,rfl,d,-,P⟩;have R:=Zh d;have U:=Moves.heap P (λl=>(x.2.1 g l).2 rfl) ao;have am:=Qa U f;have Y:w8.cell? ⟨g,f,none⟩=some (.bool (S.testBit t)):=cell_of_block U f _ (by rw[ac.1];exact vA_get S t (by omega));have a9:=Qb U;obtain⟨ax,l⟩:=Zx (w8.setCell ⟨g,f,none⟩ (.bool true));have V:ax.heap[g]?=some (.cells (vA h) 74 (0,0)):=by
      rw[l,Yp w8 g f _ U,ac.1,vA_set S t (by omega),<-ac.2]
     obtain⟨T,Q,aR⟩:=Zh3 (AtX.set R.o (g:=g) rfl (l▸Kept.set1 w8 g f (.bool true))) V l;clear d P V l;go_upto_region 31 with (fail);rw[<-aR.o];clear am a9 Y;go_loopw[26,27] (λP l wr=>∃d:Nat,d<=i/\l=.int .i64 (2+(d:Int))/\P=.bool (allB h d)/\Hid (wr=ax)) (λ_ l _=>8-(intOf l).toNat)
     case atStart=>exact⟨0,Nat.zero_le _,by simp,rfl,Zh rfl⟩
     case round=>
      obtain⟨d,b1,rfl,rfl,am⟩:=hrel;have ba:=am.o;subst ba;by_cases b4:d<i
      ·have b3:2+(d:Int)<2+(i:Int):=by omega
       have bg:2+(d:Int)<10:=by omega
       have bf:(0:Int)<=2+(d:Int):=by omega
       have aM:(2+(d:Int)).toNat=2+d:=by omega
       have b7:IntKind.i64.wrap (2+(d:Int)+1)=2+((d+1:Nat):Int):=by rw[IntKind.wrap_i64];omega
       have aC:=cell_of_block Q.o (2+d) _ (vA_get h d (by omega));have l:=Zh (allB_succ h d);obtain⟨a9,V⟩:=Zx (allB h d);rw[<-V]at l ⊢;obtain⟨aD,Y⟩:=Zx (h.testBit d);rw[<-Y]at l aC;clear V Y am;rcases a9 with _|_;all_goals
        go_wp2;go_roundw
        case rel=>exact⟨d+1,by omega,by go_num,by rw[l.o];rfl,Zh (by trivial)⟩
        case measure=>simp[intOf];omega
      obtain rfl:d=i:=by omega
      have V:=aI.o;have b3:((d:Int)==(d:Int))=true:=beq_self_eq_true _;obtain⟨P,a9⟩:=Zx (allB h d);rw[<-a9]at V ⊢;have bf:∃l pk,an=(l,h,pk)/\(if p=true then l=4/\pk=d else if P=true then l=3/\pk=d else l=2/\pk=0)/\(l=2->h<2 ^ d-1)/\(l=2\/l=3\/l=4):=by
       rcases p with _|_
       ·by_cases Y:h=2 ^ d-1
        ·refine⟨3,d,by rw[ab.o,if_neg (by simp),if_pos Y],?_,by omega,by omega⟩
         rw[if_neg (by simp),if_pos (by rw[V];simpa using Y)];exact⟨rfl,rfl⟩
        ·refine⟨2,0,by rw[ab.o,if_neg (by simp),if_neg Y],?_,λ_=>by have:=aO.o;omega,by omega⟩
         rw[if_neg (by simp),if_neg (by rw[V];simpa using Y)];exact⟨rfl,rfl⟩
       ·exact⟨4,d,by rw[ab.o,if_pos rfl],by rw[if_pos rfl];exact⟨rfl,rfl⟩,by omega,by omega⟩
      obtain⟨l,pk,bg,Y,aD,aC⟩:=bf;subst bg;have o:=AtX.word T u17 E;rw[show Qcz (vSt d 1 (l,h,pk).1 (l,h,pk).2.1) u17=l from(v_says (S:=h) v B aC).1]at o;obtain⟨D,aM⟩:=Zh2 o aD;clear o V a9 aD aC am;rcases p with _|_<;>rcases P with _|_
      all_goals
       simp at Y;obtain⟨rfl,rfl⟩:=Y;go_wp2_with fail;refine D.zR λo o=>?_
       obtain⟨am,V⟩:=Zh2 (AtX.bel T.o o) (o.heap Q.o);clear o;go_wp2;go_roundw
       case rel=>exact⟨m+1,_,h,af,by omega,by go_num,rfl,by simp,Zh λe=>aM.o (by first|exact e|trivial),am,V⟩
       case measure=>simp[intOf];omega
   obtain⟨l,d,h⟩:=v_says (S:=S) v B I;obtain⟨P,p⟩:=Zh2 (AtX.state x.o) (And.intro d h);clear l d h;rcases Nat.lt_or_ge m y with ah|ah
   case' inl=>have bb:¬((m:Int)<20):=by omega
   case' inl=>have a8:(m:Int)<(y:Int):=by omega
   case' inr=>have a8:¬((m:Int)<(y:Int)):=by omega
   all_goals
    clear aE;go_wp2_with fail;refine P.mono ?_;rintro e bo ⟨ac,U,an,Z,ab,T,am,Y,af,V,rfl,-,z⟩;obtain⟨Q,l⟩:=Zx ((vSt i 1 j S).s.noes.length);obtain⟨R,o⟩:=Zx ((vSt i 1 j S).s.opens.length);have d:=p.o;rw[<-l,<-o]at d ⊢;have h:=Zh (aa.trans (x.2.2.1.trans z));clear l o z;rcases I with rfl|rfl|rfl;all_goals
     simp at d;obtain⟨rfl,rfl⟩:=d;go_wp2;go_ret;exact⟨rfl,by first|exact h.o|exact h.alloc _⟩
end Go.Proofs.YtkdpmdfcdgphlaaGreat

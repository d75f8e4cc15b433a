/- Part of this claim's proof. Conditions: as its theorems say. -/
import Derived.Test.YtkdpmdfcdgphlaaGreatM2
import Derived.Test.YtkdpmdfcdgphlaaGreatWLTold
import Derived.Test.YtkdpmdfcdgphlaaGreatWVotesT
import Derived.Test.YtkdpmdfcdgphlaaGreatWAtY
import Derived.Test.YtkdpmdfcdgphlaaGreatWArgsI
import Derived.Test.YtkdpmdfcdgphlaaGreatM39
set_option linter.all false
namespace Go.Po
theorem or_set{S t:Nat}(h:S.testBit t=true):S ||| 2 ^ t=S:=by
 apply Nat.eq_of_testBit_eq;intro j;rw[tb];by_cases e:t=j
 ·subst e;simp[h]
 ·simp[e]
theorem br_eta{b:Br}{s:St}(a:b.s=s)(c:b.G=[])(d:b.K=[]):b=⟨b.l,s,[],[]⟩:=by cases b;simp_all
theorem leftT_zero:∀q,q<7->(leftT q 0).length=q:=by decide
theorem leftT_at{q S j:Nat}{x:Int}(h:(leftT q S)[j]?=some x):∃t,t<q/\x=2+(t:Int)/\S.testBit t=false:=by
 have a:=List.mem_of_getElem? h;simp only[leftT,List.mem_map,List.mem_filter,List.mem_range,Bool.not_eq_true']at a;obtain⟨t,⟨b,c⟩,d⟩:=a;exact⟨t,b,d.symm,c⟩
end Go.Po
namespace Go.Proofs.YtkdpmdfcdgphlaaGreat
open Go.RowKit Go.Mem Go.Po
set_option maxHeartbeats 16000000 in
set_option maxRecDepth 100000 in
theorem coordToldL_any(parts:Int)(vo:Option Addr)(vl vc:Nat)(V:Nat->Int)(w:World)(hvo:Tv w vo vl (λk=>.int .i64 (V k))):
 Calls Tryz.prog 12 #[.int .i64 parts,.slice vo vl vc] w λe w'=>e=.returned (.bool true)/\Bel w w':=by
 obtain⟨KU,HVO⟩:=Zh2 (show i64 u17 by simp[i64,u17]) hvo;have hvl:=hvo.1;simp only[maxLen]at hvl;clear hvo;go_enter Tryz.func12,Tryz.ntmps12;go_wp2_with fail;refine(Qci w).zR λw1 b1=>?_
 have B1:=Zh b1;clear b1;obtain⟨q,r,hq0,hq7,hq1,hq2,hq3⟩:=rem_q parts;obtain⟨t1,t2,t3',t4⟩:=t_first q hq7 hq0;obtain⟨HC3,HT1⟩:=Zh2 (eqBr_eq t4) (And.intro (eqSt_eq t1) (And.intro (List.eq_nil_of_length_eq_zero t2) (List.eq_nil_of_length_eq_zero t3')));clear t1 t2 t3' t4;go_upto_region 5 with (fail);clear hq1 hq2 hq3;go_wp2_with fail;refine(R7 1 rfl w1).mono ?_;rintro e w2 ⟨kb,pb,cb,db,O,rfl,q2,b2,n2⟩;have Q2:=Zh (show At O a0 0 w1 w2 cb pb kb db from⟨q2,n2,b2⟩);clear q2 b2 n2;go_wp2_with fail;refine(At.begins Q2.o (by omega)).mono ?_;rw[Qx0];rintro e w3 ⟨rfl,O3,q3,-⟩;have Q3:=Zh (show At O3 k1 1 w1 w3 cb pb kb db from q3);clear q3;go_upto_region 11 with (fail);go_loopw[11,12] (λs a wr=>∃(i:Nat) (lo:Option Addr) (lc:Nat),i<=q/\a=.int .i64 i/\s=.slice lo i lc/\Hid (Own Fx (λk=>k<w3.heap.size) w3 wr 73 lo lc ((shs q 1).take i))/\Hid (Bel w3 wr)) (λ_ a _=>q-(intOf a).toNat)
 case atStart=>exact⟨0,none,0,Nat.zero_le _,rfl,rfl,Zh (Own.nil _ _ _ _ _),Zh (Bel.refl _)⟩
 case round=>
  obtain⟨i,lo,lc,hi,rfl,rfl,hO,hB⟩:=hrel;by_cases hiq:i<q
  ·have hw:IntKind.i64.wrap ((i:Int)+1)=((i+1:Nat):Int):=by rw[IntKind.wrap_i64];omega
   have hw2:IntKind.i64.wrap (2+(i:Int))=2+(i:Int):=by rw[IntKind.wrap_i64];omega
   have hll:i=((shs q 1).take i).length:=by simp[shs];omega
   have HLL:=Zh hll;clear hll;go_wp2_with(at_builtin;go_must (refine Xe (r:=Fx) (A:=λk=>k<w3.heap.size) (w0:=w3) _ rfl _ _ 71 71 rfl el_share lo i lc ((shs q 1).take i) HLL.o (hO.bel ((Bel.refl _).alloc _)) rfl _ rfl [⟨2+(i:Int),1⟩] [.int .i64 (2+(i:Int)),.int .i64 1] (Ch.one rfl rfl) (srcSh _ ⟨2+(i:Int),1⟩ (heap_alloc_new _ _)) (by simp;omega) (by omega) (by have:=hB.size;simp;omega) ?_);intro ao' cap' w5 hO5 hK5 hn5;have HO5:=Zh hO5;have HK5:=Zh hK5;clear hO5 hK5 hn5);go_roundw
   case rel=>exact⟨i+1,ao',cap',by omega,by go_num,by simp,by rw[shs_take hiq];exact HO5,Zh ((hB.alloc _).of_kept HK5.o λk hk=>by obtain⟨_,_,_,h3⟩:=hO.o;exact h3 k hk)⟩
   case measure=>simp[intOf];omega
  obtain rfl:i=q:=by omega
  have hl:(shs i 1).length=i:=by simp[shs]
  have hO2:=hO.o;rw[List.take_of_length_le (by omega)]at hO2;have hCM:=At.commit Q3.o hB.o (by omega) u17 KU.o (shs i 1) lo lc (hO2.rd λk hk=>hk) (by omega);rw[hl]at hCM;have HCM:=Zh hCM;clear hCM hl hO2;go_wp2_with fail;refine HCM.mono ?_;rintro e w5 ⟨ao0,cap0,O5,rfl,q5,-,-⟩;have Q5:=Zh (show At O5 (vB i 1 0) 2 w1 w5 cb pb kb db by rw[<-HC3.o];exact q5);have hV:=Zh (At.vote Q5.o (by omega) 2 (by simp[i64]) u17 KU.o false);clear q5;go_wp2_with fail;refine hV.mono ?_;rintro e w6 ⟨ao6,cap6,O6,rfl,q6,-,-⟩;have hb:∃l,(Bw (vB i 1 0) 2 u17 false).2=tB l i 0:=by
   obtain⟨h1,h2,h3⟩:=HT1.o;exact⟨_,br_eta h1 h2 h3⟩
  obtain⟨l,hl⟩:=hb;have Q6:=Zh (show At O6 (tB l i 0) 4 w1 w6 cb pb kb db by rw[<-hl];exact q6);clear q6 hl;obtain⟨W7,hW7⟩:=Zx (w6.alloc (.cells (#[.bool false,.bool false,.bool false,.bool false,.bool false,.bool false,.bool false,.bool false,.bool false,.bool false]) 74));obtain⟨g,hg⟩:=Zx w6.heap.size;have q7:AtX (λk=>k=g) O6 (tB l i 0) (4+0) w1 W7 cb pb kb db:=by rw[hW7,hg];exact AtX.new Q6.o _
  have g7:W7.heap[g]?=some (.cells (vA 0) 74 (0,0)):=by rw[hW7,hg];exact heap_alloc_new _ _
  obtain⟨Q7,G7,HW7,HG⟩:=Zh4 q7 g7 hW7 hg;clear hW7 hg q7 g7;go_upto_region 19 with (fail);rw[<-HG.o,<-HW7.o];go_loopw[13,15] (λlf a wr=>∃(m S:Nat) (l:List St) (O:Nat->Prop),m<=15/\a=.int .i64 m/\lf=.int .i64 ((leftT i S).length:Int)/\Hid (S<2 ^ i)/\Hid (AtX (λk=>k=g) O (tB l i S) (4+m) w1 wr cb pb kb db)/\Hid (wr.heap[g]?=some (.cells (vA S) 74 (0,0)))) (λ_ a _=>15-(intOf a).toNat)
  case atStart=>exact⟨0,0,l,O6,by omega,rfl,by rw[leftT_zero i hq7],Zh (Nat.two_pow_pos i),Q7,G7⟩
  case round=>
   obtain⟨m,S,l,Om,hm,rfl,rfl,hS,Qm,Gm⟩:=hrel;obtain⟨nl,hnl⟩:=Zx ((leftT i S).length);rw[<-hnl];have HNL:=Zh hnl;have hnl6:nl<=6:=by rw[hnl];exact(t_left i hq7 hq0 S hS.o 0 hq0).2
   clear hnl;by_cases hmc:m<vl/\m<15
   ·obtain⟨h1,h2⟩:=hmc
    have h1I:(m:Int)<(vl:Int):=by omega
    have h2I:(m:Int)<15:=by omega
    have h0I:(0:Int)<=(m:Int):=by omega
    have hTk:=AtX.tick Qm.o (by show 4+m+0<199;omega) (λp hp=>by cases hp);rw[tick_l]at hTk;obtain⟨P,hP⟩:=Zx (tick0 (tB [] i S));have hk:=t_tick i hq7 hq0 S hS;rw[<-hP]at hTk hk;have hPk:P.map (λp=>[p.kind,if p.yes=true then 1 else 0,p.to])=(leftT i S).map λx=>[3,0,x]:=by simpa using hk
    have hPl:P.length=nl:=by have:=congrArg List.length hPk;simp at this;rw[this,HNL.o]
    have hTk2:Calls Tryz.prog 48 #[.pointer (some ⟨cb,0,none⟩)] wr λe w'=>∃ao cap O',e=.returned (.tuple #[.slice ao nl cap,.int .i64 0])/\AtX (λk=>k=g) O' (tB l i S) (4+m) w1 w' cb pb kb db/\Rd Xw O' w' ao cap P/\Moves Om O' wr w':=by rw[<-hPl];exact hTk
    obtain⟨HTk,HPK,HPL⟩:=Zh3 hTk2 hPk hPl;clear hTk hTk2 hk hP hPk hPl;go_wp2_with fail;refine HTk.mono ?_;rintro e w8 ⟨ao8,cap8,O8,rfl,q8,r8,v8⟩;obtain⟨Q8,R8,G8⟩:=Zh3 q8 r8 (Moves.heap v8 (λh=>(Qm.2.1 g h).2 rfl) Gm.o);clear q8 r8 v8;have hnn:((nl:Int)!=(nl:Int))=false:=by simp
    go_upto_region 25 with (fail);go_loopw[18] (λa wr=>∃j:Nat,j<=nl/\a=.int .i64 j/\Hid (wr=w8)) (λa _=>nl-(intOf a).toNat)
    case atStart=>exact⟨0,Nat.zero_le _,rfl,Zh rfl⟩
    case round=>
     obtain⟨j,hj,rfl,hwr⟩:=hrel;have e8:=hwr.o;subst e8;clear hwr;by_cases hjn:j<nl
     ·obtain⟨x,hx⟩:∃x,P[j]?=some x:=⟨P[j]'(by have:=HPL.o;omega),by simp⟩
      obtain⟨pg,poff,rfl,hpg,z0,z1,z2,z3,z4,z5⟩:=Nu R8.o hx;obtain⟨y,hy⟩:∃y,(leftT i S)[j]?=some y:=⟨(leftT i S)[j]'(by have:=HNL.o;omega),by simp⟩;have hxy:[x.kind,if x.yes=true then 1 else 0,x.to]=[3,0,y]:=by
       have:=congrArg (λl=>l[j]?) HPK.o;simp only[List.getElem?_map,hx,hy,Option.map_some]at this;exact Option.some.inj this
      obtain⟨t,hti,hyt,hbt⟩:=leftT_at hy;simp only[List.cons.injEq]at hxy;have hyes:x.yes=false:=by
       have:=hxy.2.1;cases hz:x.yes
       ·rfl
       ·rw[hz]at this;simp at this
      rw[hxy.1]at z0;rw[hyes]at z5;rw[hxy.2.2.1,hyt]at z2;have hjI:(j:Int)<(nl:Int):=by omega
      have hj0:(0:Int)<=(j:Int):=by omega
      have hwj:IntKind.i64.wrap ((j:Int)+1)=((j+1:Nat):Int):=by rw[IntKind.wrap_i64];omega
      have ht10:2+(t:Int)<10:=by omega
      have ht0:(0:Int)<=2+(t:Int):=by omega
      have hto:(2+(t:Int)).toNat=2+t:=by omega
      have cu:=cell_of_block G8.o (2+t) _ (vA_get S t (by omega));rw[hbt]at cu;clear hx hy hxy hyt hbt hyes z1 z3 z4;go_wp2;go_roundw
      case rel=>exact⟨j+1,by omega,by go_num,Zh (by trivial)⟩
      case measure=>simp[intOf];omega
     obtain rfl:j=nl:=by omega
     obtain⟨f,r8,hf0,hf9,hr1,hr2,hr3⟩:=rem_8 (V m);obtain⟨vb,voff,hvo',hvlt,hvc⟩:=(HVO.bel (B1.trans Q8.2.2.1)).2 (by omega);have hve:=hvc m h1;subst hvo';clear hvc;go_upto_region 30 with (fail);clear hr1 hr2 hr3 hve;obtain⟨l2,hl2⟩:=told_l (tB l i S) f Go.Po.u17;have hts:=eqSt_eq (t_told i hq7 hq0 S hS f hf9);have hTo:=AtX.told Q8.o (by omega) f Go.Po.u17 ⟨by omega,by omega⟩ KU.o;obtain⟨S',hS'⟩:=Zx (if 2<=f/\f<2+i then S ||| 2 ^ (f-2) else S);rw[<-hS']at hts;rw[hl2,show(Qcy ⟨[],(tB l i S).s,(tB l i S).G,(tB l i S).K⟩ f Go.Po.u17).2.s=tS i S' from hts]at hTo;obtain⟨HTo,HS2⟩:=Zh2 hTo hS';have hw2q:IntKind.i64.wrap (2+(i:Int))=2+(i:Int):=by rw[IntKind.wrap_i64];omega
     have hw:IntKind.i64.wrap ((m:Int)+1)=((m+1:Nat):Int):=by rw[IntKind.wrap_i64];omega
     have hwn:IntKind.i64.wrap ((j:Int)-1)=(j:Int)-1:=by rw[IntKind.wrap_i64];omega
     obtain⟨c1,hc1⟩:∃c1,decide ((2:Int)<=(f:Int))=c1:=⟨_,rfl⟩;have hc1n:decide (2<=f)=c1:=by rw[<-hc1];exact decide_eq_decide.2 (by omega)
     obtain⟨c2,hc2⟩:∃c2,decide ((f:Int)<2+(i:Int))=c2:=⟨_,rfl⟩;have hc2n:decide (f<2+i)=c2:=by rw[<-hc2];exact decide_eq_decide.2 (by omega)
     clear hts hl2 hTo hS';go_wp2_with fail;refine HTo.mono ?_;rintro e w9 ⟨rfl,O9,q9,v9⟩;have Q9:=Zh (show AtX (λk=>k=g) O9 (tB l2 i S') (4+(m+1)) w1 w9 cb pb kb db from q9);have g9:=Moves.heap v9 (λh=>(Q8.2.1 g h).2 rfl) G8;have G9:=Zh g9;clear q9 v9;by_cases hin:2<=f/\f<2+i
     case neg=>
      have hSS:S'=S:=by rw[HS2.o,if_neg hin]
      subst hSS;have hin2:c1=true->c2=true->False:=λb c=>hin ⟨of_decide_eq_true (hc1n.trans b),of_decide_eq_true (hc2n.trans c)⟩
      clear hin g9;rcases c1 with _|_<;>rcases c2 with _|_
      all_goals try (exact(hin2 rfl rfl).elim)
      all_goals
       clear hin2;go_wp2;go_roundw
       case rel=>exact⟨m+1,S',l2,O9,by omega,by go_num,by rw[HNL.o],hS,Q9,G9⟩
       case measure=>simp[intOf];omega
     obtain⟨f2,fq⟩:=hin;obtain rfl:c1=true:=by rw[<-hc1n];simpa using f2
     obtain rfl:c2=true:=by rw[<-hc2n];simpa using fq
     obtain⟨t,ht⟩:∃t,f=2+t:=⟨f-2,by omega⟩;have hti:t<i:=by omega
     have hS2:S'=S ||| 2 ^ t:=by rw[HS2.o,if_pos ⟨f2,fq⟩,show f-2=t by omega]
     have htl:=(t_left i hq7 hq0 S hS t hti).1;have HS3:=Zh (v_or i hq7 S hS t hti);have f10:(f:Int)<10:=by omega
     have f00:(0:Int)<=(f:Int):=by omega
     obtain⟨bt,hbt⟩:=Zx (S.testBit t);have cf:w9.cell? ⟨g,f,none⟩=some (.bool bt):=cell_of_block g9 f _ (by rw[ht,hbt];exact vA_get S t (by omega));rcases bt with _|_
     ·have fr:=Qa g9 f
      have hgl:=Qb g9;obtain⟨HL,HG9,HQ9,HLT⟩:=Zh4 (show((leftT i S').length:Int)=(j:Int)-1 by rw[<-hbt]at htl;rw[hS2,HNL.o];simp at htl;omega) (show(w9.setCell ⟨g,f,none⟩ (.bool true)).heap[g]?=some (.cells (vA S') 74 (0,0)) by rw[Yp w9 g f _ g9,ht,vA_set S t (by omega),<-hS2]) (AtX.set Q9.o (g:=g) rfl (Kept.set1 w9 g f (.bool true))) (show S'<2 ^ i by rw[hS2];exact HS3.o);clear htl hS2 ht hbt g9;go_wp2;go_roundw
      case rel=>exact⟨m+1,S',l2,O9,by omega,by go_num,by rw[HL.o],HLT,HQ9,HG9⟩
      case measure=>simp[intOf];omega
     ·have hSS:S'=S:=by rw[hS2,or_set hbt.symm]
      subst hSS;clear htl hS2 ht hbt g9;go_wp2;go_roundw
      case rel=>exact⟨m+1,S',l2,O9,by omega,by go_num,by rw[HNL.o],hS,Q9,G9⟩
      case measure=>simp[intOf];omega
   have HST:=Zh (AtX.state Qm);have hW:=AtX.word Qm Go.Po.u17 KU;obtain⟨w4,w5⟩:=t_word i hq7 hq0 S hS.o;rw[show Qcz (tB l i S) Go.Po.u17=4 from w4]at hW;rw[<-HNL.o]at w5;have HW5:=Zh w5;clear w4 w5 hW;rcases Nat.lt_or_ge m vl with h1|h1
   case' inl=>have h2:¬((m:Int)<15):=by omega
   case' inl=>have h1I:(m:Int)<(vl:Int):=by omega
   case' inr=>have h1I:¬((m:Int)<(vl:Int)):=by omega
   all_goals
    clear hmc;go_wp2_with fail;refine HST.mono ?_;rintro e w9 ⟨xm,xM,xw,xW,xe,xE,xo,xO,xn,xN,rfl,-,b9⟩;have Q9:=Zh (AtX.bel Qm b9);have hf8:=Qv9 (tB l i S).s xm xM xw xW xe xE xo xO xn xN;obtain⟨p,hp⟩:=Zx ((tB l i S).s.noes.length);have hpw:p=if nl=0 then 0 else 1:=by rw[hp];exact HW5.o
    have hW9:=AtX.word Q9 Go.Po.u17 KU;rw[show Qcz (tB l i S) Go.Po.u17=4 from(t_word i hq7 hq0 S hS.o).1]at hW9;have HW9:=Zh hW9;rw[<-hp]at hf8 ⊢;clear hp b9 hW9;by_cases hz:nl=0
    ·rw[if_pos hz]at hpw
     subst hz hpw;go_wp2_with fail;refine HW9.zR λw10 b10=>?_
     have B10:=Zh b10;clear b10 hf8;go_wp2;go_ret;exact⟨rfl,B1.trans (Q9.2.2.1.trans B10)⟩
    ·rw[if_neg hz]at hpw
     subst hpw;have hzI:((nl:Int)==0)=false:=by simp;omega
     go_wp2_with fail;refine HW9.zR λw10 b10=>?_
     have B10:=Zh b10;clear b10 hf8;go_wp2;go_ret;exact⟨rfl,B1.trans (Q9.2.2.1.trans B10)⟩
end Go.Proofs.YtkdpmdfcdgphlaaGreat

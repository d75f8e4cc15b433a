/- Part of this claim's proof. Conditions: as its theorems say. -/
import Derived.Test.YtkdpmdfcdgphlaaGreatM9
import Derived.Test.YtkdpmdfcdgphlaaGreatWLNever
import Derived.Test.YtkdpmdfcdgphlaaGreatWAtB
import Derived.Test.YtkdpmdfcdgphlaaGreatWRefE
import Derived.Test.YtkdpmdfcdgphlaaGreatM39
import Derived.Deep.CutBlock
set_option linter.all false
namespace Go.Po
theorem rem8n(x:Int):∃(f r:Int),0<f/\f<9/\(Int.tmod (Int.tmod x 8+8) 8)=r/\IntKind.i64.wrap (Int.tmod x 8+8)=Int.tmod x 8+8/\IntKind.i64.wrap (1+r)=f:=by
 have a:-8<Int.tmod x 8/\Int.tmod x 8<8:=⟨by have:=Int.lt_tmod_of_pos x (b:=8) (by omega);omega,Int.tmod_lt_of_pos x (by omega)⟩;have c:0<=Int.tmod (Int.tmod x 8+8) 8:=Int.tmod_nonneg _ (by omega);have d:Int.tmod (Int.tmod x 8+8) 8<8:=Int.tmod_lt_of_pos _ (by omega);refine⟨1+Int.tmod (Int.tmod x 8+8) 8,_,by omega,by omega,rfl,by rw[IntKind.wrap_i64];omega,?_⟩;rw[IntKind.wrap_i64];omega
end Go.Po
namespace Go.Proofs.YtkdpmdfcdgphlaaGreat
open Go.RowKit Go.Mem Go.Po
set_option maxHeartbeats 16000000 in
set_option maxRecDepth 100000 in
theorem partNeverL_any(id tid n:Int)(say:Bool)(how:Int)(htid:i64 tid)(w:World):
 Calls Tryz.prog 3 #[.int .i64 id,.int .i64 tid,.int .i64 n,.bool say,.int .i64 how] w λe w'=>e=.returned (.bool true)/\Bel w w':=by
 obtain⟨KT,PQ,PT⟩:=Zh3 htid (show p17.q.size<=maxLen by simp[maxLen,p17,ByteArray.size]) (show(⟨#[113]⟩:ByteArray).size<=maxLen by simp[maxLen,ByteArray.size]);clear htid;go_enter Tryz.func3,Tryz.ntmps3;go_wp2_with fail;refine(Qci w).zR λw1 b1=>?_
 have B1:=Zh b1;clear b1;obtain⟨i,r,hi0,hi9,hr1,hr2,hr3⟩:=rem8n id;have hbo:Qz i=true:=by simp[Qz];omega
 have HB:=Zh hbo;go_upto_region 5 with (fail);clear hr1 hr2 hr3 hbo;go_wp2_with fail;refine(R7 i HB w1).mono ?_;rintro e w2 ⟨kb,pb,cb,db,O,rfl,q2,b2,n2⟩;have Q2:=Zh (show At O (nvB i []) 0 w1 w2 cb pb kb db from⟨q2,n2,b2⟩);clear q2 b2 n2;go_wp2_with fail;refine(Qz2 tid w2).mono ?_;obtain⟨c,hc⟩:=Zx (Zw tid);rw[<-hc];have HCT:=Zh hc;clear hc;rintro e w3 ⟨rfl,rfl⟩;rcases c with _|_
 ·go_wp2
  go_ret;exact⟨rfl,B1.trans Q2.2.2⟩
 go_wp2_with fail;refine(Qnk tid w2).zS ?_;obtain⟨d,hd⟩:∃d,(home tid==i)=d:=⟨_,rfl⟩;have HD:=Zh hd;rcases d with _|_
 case true=>
  go_wp2;go_ret;exact⟨rfl,B1.trans Q2.2.2⟩
 obtain⟨g,hg⟩:∃g,bits BinOp.and IntKind.i64 how 3=g:=⟨_,rfl⟩;obtain⟨j,hj⟩:∃j,bits BinOp.and IntKind.i64 n 1=j:=⟨_,rfl⟩;obtain⟨od,hod⟩:∃od,(j==1)=od:=⟨_,rfl⟩;have hpu:=nv_put (id:=i) (t:=tid) HCT.symm ⟨hi0,hi9⟩;have hPut:=At.put Q2.o (by omega) tid KT.o p17 PQ.o;rw[show Ga (nvB i []).s (nvB i []).G tid p17=0 from hpu.1,hpu.2]at hPut;have HPut:=Zh hPut;clear hpu hPut;go_upto_region 10 with (fail);clear hd;go_cut[55] (λb wx=>b=.bool false/\∃O',Hid (At O' (nvB i (nvG tid od)) 1 w1 wx cb pb kb db))
 case first=>
  rcases od with _|_
  ·go_wp2_with fail
   go_meet
   case rel=>exact⟨rfl,O,Zh ⟨Br.more Q2.1 (Nat.zero_le _),Q2.2⟩⟩
  ·go_wp2_with fail
   refine HPut.mono ?_;rintro e w5 ⟨rfl,O5,q5,-⟩;have Q5:=Zh q5;clear q5;go_wp2;go_meet
   case rel=>exact⟨rfl,O5,Q5⟩
 case rest=>
  obtain⟨rfl,O',hQ⟩:=hcut;go_upto_block 0 with fail;have hIT:=HCT.symm;have hOB:=nv_back (id:=i) (t:=tid) hIT od;obtain⟨HOB,HIT⟩:=Zh2 hOB hIT;clear hIT hOB;go_cut[57] (λ_ wx=>∃O' b,Hid (At O' b 3 w1 wx cb pb kb db)/\Hid (Over b tid))
  case first=>
   by_cases g0:g=0
   ·have t0:(g==0)=true:=by simpa using g0
    have hT:=Zh (At.back hQ.o (by omega) tid KT.o);clear g0;go_wp2_with fail;refine hT.mono ?_;rintro e w6 ⟨rfl,O6,q6,-⟩;have Q6:=Zh q6;clear q6;go_wp2;go_meet
    case rel=>exact⟨O6,_,Zh ⟨Br.more Q6.1 (by omega),Q6.2⟩,HOB⟩
   by_cases g1:g=1
   ·have t0:(g==0)=false:=by simpa using g0
    have t1:(g==1)=true:=by simpa using g1
    have hT:=Zh (At.prep hQ.o (by omega) tid KT.o 1);clear g0 g1;go_wp2_with fail;refine hT.mono ?_;rintro e w6 ⟨rfl,O6,q6,-⟩;have Q6:=Zh (show At O6 (Gx (nvB i (nvG tid od)) tid 1) 2 w1 w6 cb pb kb db from q6);have hS:=Zh (At.say Q6.o (by omega) tid KT.o say);clear q6;go_wp2_with fail;refine hS.mono ?_;rintro e w7 ⟨rfl,O7,q7,-⟩;have Q7:=Zh (show At O7 (Qch (Gx (nvB i (nvG tid od)) tid 1) tid say) 3 w1 w7 cb pb kb db from q7);clear q7;go_wp2;go_meet
    case rel=>
     refine⟨O7,_,Q7,Zh ?_⟩;cases od
     ·rw[nv_prep_no HD.o HIT.o false (.inr rfl),over_say HOB.o];exact HOB.o
     ·exact nv_prep HD HIT say
   by_cases g2:g=2
   ·have t0:(g==0)=false:=by simpa using g0
    have t1:(g==1)=false:=by simpa using g1
    have t2:(g==2)=true:=by simpa using g2
    have hT:=Zh (At.prep hQ.o (by omega) tid KT.o 7);clear g0 g1 g2;go_wp2_with fail;refine hT.mono ?_;rintro e w6 ⟨rfl,O6,q6,-⟩;have Q6:=Zh (show At O6 (Gx (nvB i (nvG tid od)) tid 7) 2 w1 w6 cb pb kb db from q6);clear q6;go_wp2;go_meet
    case rel=>exact⟨O6,_,Zh ⟨Br.more Q6.1 (by omega),Q6.2⟩,Zh (by rw[nv_prep_no HD.o HIT.o od (.inl (by decide))];exact HOB.o)⟩
   have t0:(g==0)=false:=by simpa using g0
   have t1:(g==1)=false:=by simpa using g1
   have t2:(g==2)=false:=by simpa using g2
   have hT:=Zh (At.say hQ.o (by omega) tid KT.o false);clear g0 g1 g2;go_wp2_with fail;refine hT.mono ?_;rintro e w6 ⟨rfl,O6,q6,-⟩;have Q6:=Zh (show At O6 (Qch (nvB i (nvG tid od)) tid false) 2 w1 w6 cb pb kb db from q6);clear q6;go_wp2;go_meet
   case rel=>exact⟨O6,_,Zh ⟨Br.more Q6.1 (by omega),Q6.2⟩,Zh (by rw[nv_say HD.o HIT.o od];exact HOB.o)⟩
  case rest=>
   obtain⟨O7,b,Q7,OV⟩:=hcut;clear hg hj hod;go_wp2_with fail;refine(At.state Q7).mono ?_;rintro e w9 ⟨xm,xM,xw,xW,xe,xE,xo,xO,xn,xN,rfl,hs9,b9⟩;obtain⟨W9,hW9⟩:=Zx (w9.alloc (.cells #[.int .i64 b.s.broker,.int .i64 b.s.nextId,.int .i64 b.s.nextSeq,.int .i64 b.s.tx,.slice xm b.s.ms.length xM,.slice xw b.s.waits.length xW,.slice xe b.s.ends.length xE,.slice xo b.s.opens.length xO,.slice xn b.s.noes.length xN] 43));obtain⟨sg,hsg⟩:=Zx w9.heap.size;have t9:=Told.new Q7 hs9 b9 hW9;rw[<-hsg]at t9;obtain⟨T9,Q9,HW9,HSG⟩:=Zh4 t9 (At.bel (At.bel Q7.o b9) (show Bel w9 W9 from hW9▸(Bel.refl _).alloc _)) hW9 hsg;obtain⟨y,hy⟩:=OV.2.1;have HY:=Zh hy;have hae:=Qir b.s xm xM xw xW xe xE xo xO xn xN tid O7 W9 T9.rd (by rw[hy];simp);rw[show Kz (λx:Fin=>x.tid==tid) b.s.ends=0 by rw[hy];simp[Kz]]at hae;have HAE:=Zh hae;obtain⟨e0,e1,e2,e3,e4,e5,e6,e7,e8⟩:=sAt T9.blk;clear hs9 b9 hW9 hsg hy hae t9;go_wp2_with fail;rw[<-HSG.o,<-HW9.o];go_wp2_with fail;refine HAE.zR λw10 b10=>?_
   obtain⟨T10,Q10⟩:=Zh2 (Told.bel T9.o b10) (At.bel Q9.o b10);have hTk:=At.take Q10.o (by omega) tid KT.o ⟨#[113]⟩ PT.o;obtain⟨o1,o2⟩:=over_take OV.o HIT.o;obtain⟨mm,hmm⟩:=Zx (Gs b.s b.G tid ⟨#[113]⟩);rw[o1,o2,<-hmm,show F6 mm=#[.int .i64 mm.id,.string mm.q,.string mm.b,.int .i64 mm.seq,.int .i64 mm.cnt,.int .i64 mm.who] from rfl]at hTk;have HTk:=Zh hTk;clear b10 hTk o1 o2 hmm e0 e1 e2 e3 e4 e5 e6 e7 e8;go_wp2_with fail;refine HTk.mono ?_;rintro e w11 ⟨rfl,O11,q11,v11⟩;obtain⟨W12,hW12⟩:=Zx (w11.alloc (.cells #[.int .i64 mm.id,.string mm.q,.string mm.b,.int .i64 mm.seq,.int .i64 mm.cnt,.int .i64 mm.who] 47));have b12:=Zb hW12;obtain⟨Q12,T12,HW12⟩:=Zh3 (At.bel q11 b12) (Told.bel (Told.moves T10.o v11) b12) hW12;have hP:=At.prep Q12.o (by omega) tid KT.o 1;rw[(over_prep OV.o 1).1,(over_prep OV.o 1).2]at hP;have HP:=Zh hP;clear q11 v11 b12 hW12 hP;go_wp2_with fail;rw[<-HW12.o];refine HP.mono ?_;rintro e w13 ⟨rfl,O13,q13,v13⟩;obtain⟨Q13,T13⟩:=Zh2 q13 (Told.moves T12.o v13);clear q13 v13;obtain⟨fg,off,hao,hfg,-,z1⟩:=Ba (k:=0) (x:=⟨tid,y⟩) T13.rd.ends (by rw[HY.o];rfl);simp only[Nat.zero_mul,Nat.add_zero]at z1;have e6:=cell_of_block T13.blk 6 _ rfl;rw[HY.o,hao,show([⟨tid,y⟩]:List Fin).length=1 from rfl]at e6;have hSy:=At.say Q13.o (by omega) tid KT.o (!y);rw[over_say OV.o]at hSy;have HSy:=Zh hSy;clear hSy hao;go_wp2_with fail;refine HSy.mono ?_;rintro e w14 ⟨rfl,O14,q14,v14⟩;obtain⟨Q14,T14⟩:=Zh2 q14 (Told.moves T13.o v14);clear q14 v14 e6 z1;have hpv:=over_put OV.o HIT.o (p:=⟨⟨#[113]⟩,⟨#[]⟩⟩) (by decide);have hPu:=At.put (At.bel Q14.o ((Bel.refl _).drew)) (by omega) tid KT.o ⟨⟨#[113]⟩,⟨#[]⟩⟩ PT.o;rw[hpv.1,hpv.2]at hPu;obtain⟨HPu,hbk⟩:=Zh2 hPu (over_back OV.o HIT.o);clear hpv hPu;go_upto_region 28 with (fail);obtain⟨z0,z1,z2,z3,z4,z5,z6,z7,z8⟩:=sAt T14.blk;go_region_held3 (λw'=>w'.cell? ⟨sg,0,none⟩=some (.int .i64 b.s.broker)/\w'.cell? ⟨sg,1,none⟩=some (.int .i64 b.s.nextId)/\w'.cell? ⟨sg,2,none⟩=some (.int .i64 b.s.nextSeq)/\w'.cell? ⟨sg,3,none⟩=some (.int .i64 b.s.tx)/\w'.cell? ⟨sg,4,none⟩=some (.slice xm b.s.ms.length xM)/\w'.cell? ⟨sg,5,none⟩=some (.slice xw b.s.waits.length xW)/\w'.cell? ⟨sg,6,none⟩=some (.slice xe b.s.ends.length xE)/\w'.cell? ⟨sg,7,none⟩=some (.slice xo b.s.opens.length xO)/\w'.cell? ⟨sg,8,none⟩=some (.slice xn b.s.noes.length xN))
    (first|go_keep|exact y0|exact y1|exact y2|exact y3)
    ((first
      | (go_at_call 19;refine HPu.mono ?_;rintro e w15 ⟨rfl,O15,q15,v15⟩;have Q15:=Zh q15;have T15:=Zh (Told.moves (Told.bel T14.o ((Bel.refl _).drew)) v15);have y0:=sAt T15.blk;clear q15 v15)
      | (go_at_call 20;have hB:=At.back Q15.o (by omega) tid KT.o;rw[hbk.1,hbk.2]at hB;refine hB.mono ?_;rintro e w16 ⟨rfl,O16,q16,v16⟩;have Q16:=Zh q16;have T16:=Zh (Told.moves T15.o v16);have y1:=sAt T16.blk;clear q16 v16 hB)
      | (go_at_call 23;refine(At.state Q16.o).mono ?_;rintro e w17 ⟨ym,yM,yw,yW,ye,yE,yo,yO,yn,yN,rfl,hs17,b17⟩;have S17:=Zh hs17;have Q17:=Zh (At.bel Q16.o b17);have T17:=Zh (Told.bel T16.o b17);have y2:=sAt T17.blk;clear hs17 b17)
      | (go_at_call 26;refine(Qsn _ _ w17 b.s ym yM yw yW ye yE yo yO yn yN xm xM xw xW xe xE xo xO xn xN S17.o T17.rd).mono ?_;rintro e w18 ⟨rfl,b18⟩;have Q18:=Zh (At.bel Q17.o b18);have T18:=Zh (Told.bel T17.o b18);have y3:=sAt T18.blk;clear b18)
      | (go_at_call 27;obtain⟨lb,l1,l2⟩:=At.locks Q18.o;have l3:=l2 tid KT.o;rw[OV.2.2]at l3;have L3:=Zh l3;refine l1.mono ?_;rintro e w19 ⟨rfl,rfl⟩;clear l1 l2 l3)
      | (go_at_call 28;refine L3.mono ?_;rintro e w20 ⟨rfl,rfl⟩)))
   go_wp2;go_ret;exact⟨rfl,B1.trans Q18.2.2⟩
end Go.Proofs.YtkdpmdfcdgphlaaGreat

/- Part of this claim's proof. Conditions: as its theorems say. -/
import Derived.Test.YtkdpmdfcdgphlaaGreatM2
import Derived.Test.YtkdpmdfcdgphlaaGreatWLSay
import Derived.Test.YtkdpmdfcdgphlaaGreatWAtB
import Derived.Test.YtkdpmdfcdgphlaaGreatWRefE
import Derived.Test.YtkdpmdfcdgphlaaGreatWArgs
import Derived.Test.YtkdpmdfcdgphlaaGreatM39
set_option linter.all false
namespace Go.Proofs.YtkdpmdfcdgphlaaGreat
open Go.RowKit Go.Mem Go.Po
set_option maxHeartbeats 16000000 in
set_option maxRecDepth 100000 in
theorem Qkt(puts takes:Int)(yes:Bool)(mo:Option Addr)(ml mc:Nat)(F:Nat->Bool)(w:World)(hmo:Tv w mo ml (λk=>.bool (F k))):
 Calls Tryz.prog 5 #[.int .i64 puts,.int .i64 takes,.bool yes,.slice mo ml mc] w λe w'=>e=.returned (.bool true)/\Bel w w':=by
 obtain⟨KT,KU,PO,PN,PT,HMO⟩:=Zh6 (show i64 t17 by simp[i64,t17]) (show i64 u17 by simp[i64,u17]) (show Qkr.q.size<=maxLen by simp[maxLen,Qkr,ByteArray.size]) (show Qks.q.size<=maxLen by simp[maxLen,Qks,ByteArray.size]) (show(⟨#[113]⟩:ByteArray).size<=maxLen by simp[maxLen,ByteArray.size]) hmo;have hml:=hmo.1;simp only[maxLen]at hml;clear hmo;go_enter Tryz.func5,Tryz.ntmps5;go_wp2_with fail;refine(Qci w).zR λw1 b1=>?_
 have B1:=Zh b1;clear b1;by_cases hp:(0<=puts/\puts<=5)/\(0<=takes/\takes<=5)
 case neg=>
  by_cases h0:puts<0
  ·go_wp2
   go_ret;exact⟨rfl,B1⟩
  by_cases h1:5<puts
  ·go_wp2
   go_ret;exact⟨rfl,B1⟩
  by_cases h2:takes<0
  ·go_wp2
   go_ret;exact⟨rfl,B1⟩
  have h3:5<takes:=by omega
  go_wp2;go_ret;exact⟨rfl,B1⟩
 obtain⟨p,hpp⟩:∃p:Nat,puts=p:=⟨puts.toNat,by omega⟩;obtain⟨k,hk⟩:∃k:Nat,takes=k:=⟨takes.toNat,by omega⟩;subst hpp hk;have hp5:p<=5:=by omega
 have hk5:k<=5:=by omega
 have a0':¬((p:Int)<0):=by omega
 have a1':¬((5:Int)<p):=by omega
 have a2':¬((k:Int)<0):=by omega
 have a3':¬((5:Int)<k):=by omega
 clear hp;go_wp2_with fail;refine(R7 1 rfl w1).mono ?_;rintro e w2 ⟨kb,pb,cb,db,O,rfl,q2,b2,n2⟩;have Q2:=Zh (show At O a0 0 w1 w2 cb pb kb db from⟨q2,n2,b2⟩);clear q2 b2 n2;go_wp2_with fail;refine(At.begins Q2.o (by omega)).mono ?_;rw[Qzs];rintro e w3 ⟨rfl,O3,q3,-⟩;have Q3:=Zh (show At O3 (sP 0) (1+0) w1 w3 cb pb kb db from q3);clear q3;go_upto_region 11 with (fail);go_loopw[15] (λa wr=>∃(i:Nat) (O:Nat->Prop),i<=k/\a=.int .i64 i/\Hid (At O (sP i) (1+i) w1 wr cb pb kb db)) (λa _=>k-(intOf a).toNat)
 case atStart=>exact⟨0,O3,Nat.zero_le _,rfl,Q3⟩
 case round=>
  obtain⟨i,Oi,hi,rfl,Qi⟩:=hrel;by_cases hik:i<k
  ·have hPut:=At.put Qi.o (by omega) u17 KU.o Qkr PO.o
   rw[Qzt i (by omega)]at hPut;have HPut:=Zh hPut;have hw:IntKind.i64.wrap ((i:Int)+1)=((i+1:Nat):Int):=by rw[IntKind.wrap_i64];omega
   clear hPut;go_wp2_with fail;refine HPut.mono ?_;rintro e w4 ⟨rfl,O4,q4,-⟩;have Q4:=Zh (show At O4 (sP (i+1)) (1+(i+1)) w1 w4 cb pb kb db from q4);clear q4;go_wp2;go_roundw
   case rel=>exact⟨i+1,O4,by omega,by go_num,Q4⟩
   case measure=>simp[intOf];omega
  obtain rfl:i=k:=by omega
  have hC:=At.commit Qi.o (Bel.refl _) (by omega) u17 KU.o [] none 0 (Rd.nil _ _ _ none 0 (Nat.zero_le _)) (by simp);rw[Qzu i (by omega)]at hC;have HC:=Zh hC;clear hC;go_wp2_with fail;refine HC.mono ?_;rintro e w5 ⟨ao,cap,O5,rfl,q5,-,-⟩;have Q5:=Zh (show At O5 (sT i 0) (2+i+0) w1 w5 cb pb kb db from by have:=q5;rw[show 2+i+0=1+i+1 by omega];exact this);clear q5;go_upto_region 20 with (fail);go_loopw[19] (λa wr=>∃(j:Nat) (O:Nat->Prop),j<=i/\a=.int .i64 j/\Hid (At O (sT i j) (2+i+j) w1 wr cb pb kb db)) (λa _=>i-(intOf a).toNat)
  case atStart=>exact⟨0,O5,Nat.zero_le _,rfl,Q5⟩
  case round=>
   obtain⟨j,Oj,hj,rfl,Qj⟩:=hrel;by_cases hji:j<i
   ·have hT:=At.take Qj.o (by omega) t17 KT.o ⟨#[113]⟩ PT.o
    obtain⟨ht1,ht2⟩:=Qza i (by omega) j hji;rw[ht1]at hT;obtain⟨mm,hmm⟩:=Zx (Gs (sT i j).s (sT i j).G t17 ⟨#[113]⟩);rw[<-hmm]at hT ht2;rw[show F6 mm=#[.int .i64 mm.id,.string mm.q,.string mm.b,.int .i64 mm.seq,.int .i64 mm.cnt,.int .i64 mm.who] from rfl,ht2]at hT;have HT:=Zh hT;have hw:IntKind.i64.wrap ((j:Int)+1)=((j+1:Nat):Int):=by rw[IntKind.wrap_i64];omega
    clear hT ht1 ht2 hmm;go_wp2_with fail;refine HT.mono ?_;rintro e w6 ⟨rfl,O6,q6,-⟩;have Q6:=Zh (show At O6 (sT i (j+1)) (2+i+(j+1)) w1 w6 cb pb kb db from q6);clear q6;go_wp2;go_roundw
    case rel=>exact⟨j+1,O6,by omega,by go_num,Zh (At.bel Q6.o ((Bel.refl _).alloc _))⟩
    case measure=>simp[intOf];omega
   obtain rfl:j=i:=by omega
   go_upto_region 26 with (fail);go_loopw[22] (λa wr=>∃(i:Nat) (O:Nat->Prop),i<=p/\a=.int .i64 i/\Hid (At O (sN j i) (2+j+j+i) w1 wr cb pb kb db)) (λa _=>p-(intOf a).toNat)
   case atStart=>exact⟨0,Oj,Nat.zero_le _,rfl,Qj⟩
   case round=>
    obtain⟨i,Oi,hi,rfl,Qi⟩:=hrel;by_cases hip:i<p
    ·have hPut:=At.put Qi.o (by omega) t17 KT.o Qks PN.o
     rw[Qzv j (by omega) i (by omega)]at hPut;have HPut:=Zh hPut;have hw:IntKind.i64.wrap ((i:Int)+1)=((i+1:Nat):Int):=by rw[IntKind.wrap_i64];omega
     clear hPut;go_wp2_with fail;refine HPut.mono ?_;rintro e w4 ⟨rfl,O4,q4,-⟩;have Q4:=Zh (show At O4 (sN j (i+1)) (2+j+j+(i+1)) w1 w4 cb pb kb db from q4);clear q4;go_wp2;go_roundw
     case rel=>exact⟨i+1,O4,by omega,by go_num,Q4⟩
     case measure=>simp[intOf];omega
    obtain rfl:i=p:=by omega
    have hw0:IntKind.i64.wrap ((i:Int)+(j:Int))=(i:Int)+(j:Int):=by rw[IntKind.wrap_i64];omega
    have hP:=At.prep Qi.o (by omega) t17 KT.o ((i:Int)+(j:Int));rw[Qzb j (by omega) i (by omega)]at hP;have hS:=Qzw j (by omega) i (by omega) yes;obtain⟨c,hc⟩:=Zx (decide (0<i+j));have hcI:decide (0<(i:Int)+(j:Int))=c:=by rw[hc];exact decide_eq_decide.2 (by omega)
    rw[<-hc]at hP hS;obtain⟨HP,HS⟩:=Zh2 hP hS;clear hP hS hc;go_wp2_with fail;refine HP.mono ?_;rintro e w7 ⟨rfl,O7,q7,-⟩;have Q7:=Zh (show At O7 (sR j i) (3+j+j+i) w1 w7 cb pb kb db from by have:=q7;rw[show 3+j+j+i=2+j+j+i+1 by omega];exact this);have hSy:=At.say Q7.o (by omega) t17 KT.o yes;rw[HS.1]at hSy;have HSy:=Zh hSy;clear q7 hSy;go_wp2_with fail;refine HSy.mono ?_;rintro e w8 ⟨rfl,O8,q8,-⟩;obtain⟨bb,hbb⟩:=Zx (sS j i yes);obtain⟨Q8,HM,HMR⟩:=Zh3 (show At O8 bb (4+j+j+i) w1 w8 cb pb kb db from by have:=q8;rw[hbb,show 4+j+j+i=3+j+j+i+1 by omega];exact this) (show bb.s.ms.length=if (yes&&c)=true then i else j by rw[hbb];exact HS.2.2.2) (show ∀y,Qch bb t17 y=bb fromλy=>Qzc (by rw[hbb];exact HS.2.1) (by rw[hbb];exact HS.2.2.1) y);clear q8 hbb;go_wp2_with fail;refine(At.state Q8).mono ?_;rintro e w9 ⟨xm,xM,xw,xW,xe,xE,xo,xO,xn,xN,rfl,hs9,b9⟩;obtain⟨W9,hW9⟩:=Zx (w9.alloc (.cells #[.int .i64 bb.s.broker,.int .i64 bb.s.nextId,.int .i64 bb.s.nextSeq,.int .i64 bb.s.tx,.slice xm bb.s.ms.length xM,.slice xw bb.s.waits.length xW,.slice xe bb.s.ends.length xE,.slice xo bb.s.opens.length xO,.slice xn bb.s.noes.length xN] 43));obtain⟨T9,Q9,HW9⟩:=Zh3 (Told.new Q8.o hs9 b9 hW9) (At.bel (At.bel Q8.o b9) (show Bel w9 W9 from hW9▸(Bel.refl _).alloc _)) hW9;obtain⟨g,hg⟩:=Zx w9.heap.size;have HG:=Zh hg;rw[<-hg]at T9;clear hs9 b9 hW9 hg;go_upto_region 35 with (fail);rw[<-HG.o];go_loopw[26] (λa wr=>∃(m:Nat) (O:Nat->Prop),m<=4/\a=.int .i64 m/\Hid (At O bb (4+j+j+i+m) w1 wr cb pb kb db)/\Hid (Told O wr g bb.s xm xM xw xW xe xE xo xO xn xN)) (λa _=>4-(intOf a).toNat)
    case atStart=>exact⟨0,O8,Nat.zero_le _,rfl,by rw[<-HW9.o];exact Q9,by rw[<-HW9.o];exact T9⟩
    case round=>
     obtain⟨m,Om,hm,rfl,Qm,Tm⟩:=hrel;by_cases hmc:m<ml/\m<4
     ·obtain⟨h1,h2⟩:=hmc
      have h1I:(m:Int)<(ml:Int):=by omega
      have h2I:(m:Int)<4:=by omega
      have h0I:(0:Int)<=(m:Int):=by omega
      obtain⟨b,off,hmo',hlt,hcl⟩:=(HMO.bel (B1.trans Qm.2.2)).2 (by omega);have hce:=hcl m h1;have hSm:=At.say Qm.o (by omega) t17 KT.o (F m);rw[HMR.o]at hSm;have HSm:=Zh hSm;have hw:IntKind.i64.wrap ((m:Int)+1)=((m+1:Nat):Int):=by rw[IntKind.wrap_i64];omega
      subst hmo';clear hcl hSm;go_wp2_with fail;refine HSm.mono ?_;rintro e w10 ⟨rfl,O10,q10,v10⟩;obtain⟨Q10,T10⟩:=Zh2 q10 (Told.moves Tm.o v10);clear q10 v10;go_wp2;go_roundw
      case rel=>exact⟨m+1,O10,by omega,by go_num,Q10,T10⟩
      case measure=>simp[intOf];omega
     have fin:∀(n:Int),Hid ((bb.s.ms.length:Int)=n)->Hid (Calls Tryz.prog 23 #[.pointer (some ⟨kb,0,none⟩)] wr.drew λe w'=>∃ym yM yw yW ye yE yo yO yn yN,e=.returned (.agg #[.int .i64 bb.s.broker,.int .i64 bb.s.nextId,.int .i64 bb.s.nextSeq,.int .i64 bb.s.tx,.slice ym bb.s.ms.length yM,.slice yw bb.s.waits.length yW,.slice ye bb.s.ends.length yE,.slice yo bb.s.opens.length yO,.slice yn bb.s.noes.length yN])/\StR (λk=>k<wr.drew.heap.size) w' bb.s ym yM yw yW ye yE yo yO yn yN/\Bel wr.drew w'):=λn _=>Zh (At.state (At.bel Qm.o (Bel.refl _).drew))
     have FIN:=Zh (fin _ (Zh rfl)).o;have z:=sAt Tm.blk;have Z:=Zh z;clear z fin;rcases yes with _|_<;>rcases c with _|_
     all_goals
      first|(have hq:((bb.s.ms.length:Int)==(i:Int))=true:=by have:=HM.o;simp at this;rw[this];exact beq_self_eq_true _)|(have hq:((bb.s.ms.length:Int)==(j:Int))=true:=by have:=HM.o;simp at this;rw[this];exact beq_self_eq_true _)
      rcases Nat.lt_or_ge m ml with h1|h1
      case' inl=>have h2:¬((m:Int)<4):=by omega
      case' inl=>have h1I:(m:Int)<(ml:Int):=by omega
      case' inr=>have h1I:¬((m:Int)<(ml:Int)):=by omega
     all_goals
      clear hmc;go_upto_region 41 with (fail);obtain⟨z0,z1,z2,z3,z4,z5,z6,z7,z8⟩:=Z.o;go_region_held3 (λw'=>w'.cell? ⟨g,0,none⟩=some (.int .i64 bb.s.broker)/\w'.cell? ⟨g,1,none⟩=some (.int .i64 bb.s.nextId)/\w'.cell? ⟨g,2,none⟩=some (.int .i64 bb.s.nextSeq)/\w'.cell? ⟨g,3,none⟩=some (.int .i64 bb.s.tx)/\w'.cell? ⟨g,4,none⟩=some (.slice xm bb.s.ms.length xM)/\w'.cell? ⟨g,5,none⟩=some (.slice xw bb.s.waits.length xW)/\w'.cell? ⟨g,6,none⟩=some (.slice xe bb.s.ends.length xE)/\w'.cell? ⟨g,7,none⟩=some (.slice xo bb.s.opens.length xO)/\w'.cell? ⟨g,8,none⟩=some (.slice xn bb.s.noes.length xN))
       (first|go_keep|exact y0|exact y1)
       ((first
         | (go_at_call 23;refine FIN.mono ?_;rintro e w12 ⟨ym,yM,yw,yW,ye,yE,yo,yO,yn,yN,rfl,hs2,b2⟩;have S2:=Zh hs2;have B2:=Zh (((Bel.refl wr).drew).trans b2);have y0:=sAt (B2.heap Tm.blk);clear hs2 b2)
         | (go_at_call 26;refine(Qsn _ _ w12 bb.s ym yM yw yW ye yE yo yO yn yN xm xM xw xW xe xE xo xO xn xN S2.o (Tm.rd.bel B2.o)).mono ?_;rintro e w13 ⟨rfl,b3⟩;have B3:=Zh (B2.trans b3);have y1:=sAt (B3.heap Tm.blk);clear b3)))
      go_wp2;go_ret;exact⟨rfl,B1.trans ((Qm.2.2).trans B3)⟩
end Go.Proofs.YtkdpmdfcdgphlaaGreat

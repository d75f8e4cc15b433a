/- Part of this claim's proof. Conditions: as its theorems say. -/
import Derived.Test.YtkdpmdfcdgphlaaGreatM9
import Derived.Test.YtkdpmdfcdgphlaaGreatWLRiseC
import Derived.Test.YtkdpmdfcdgphlaaGreatWAtB
import Derived.Test.YtkdpmdfcdgphlaaGreatM2
import Derived.Test.YtkdpmdfcdgphlaaGreatWArgs
import Derived.Test.YtkdpmdfcdgphlaaGreatM34
import Derived.Test.YtkdpmdfcdgphlaaGreatM39
set_option linter.all false
namespace Go.Po
theorem rem8r(x:Int):∃(f r:Int),0<f/\f<9/\(Int.tmod (Int.tmod x 8+8) 8)=r/\IntKind.i64.wrap (Int.tmod x 8+8)=Int.tmod x 8+8/\IntKind.i64.wrap (1+r)=f:=by
 have a:-8<Int.tmod x 8/\Int.tmod x 8<8:=⟨by have:=Int.lt_tmod_of_pos x (b:=8) (by omega);omega,Int.tmod_lt_of_pos x (by omega)⟩;have c:0<=Int.tmod (Int.tmod x 8+8) 8:=Int.tmod_nonneg _ (by omega);have d:Int.tmod (Int.tmod x 8+8) 8<8:=Int.tmod_lt_of_pos _ (by omega);refine⟨1+Int.tmod (Int.tmod x 8+8) 8,_,by omega,by omega,rfl,by rw[IntKind.wrap_i64];omega,?_⟩;rw[IntKind.wrap_i64];omega
end Go.Po
namespace Go.Proofs.YtkdpmdfcdgphlaaGreat
open Go.RowKit Go.Mem Go.Po
theorem b2i_any(x:Bool)(w:World):Calls Tryz.prog 42 #[.bool x] w λe w'=>e=.returned (.int .i64 (if x=true then 1 else 0))/\w=w':=by
 go_enter Tryz.func42,Tryz.ntmps42;rcases x with _|_;all_goals
  go_wp2;go_ret;exact⟨rfl,rfl⟩
set_option maxHeartbeats 16000000 in
set_option maxRecDepth 100000 in
theorem coordRiseL_any(id:Int)(ao:Option Addr)(al ac:Nat)(F:Nat->Bool)(n:Int)(w:World)(hao:Tv w ao al (λk=>.bool (F k))):
 Calls Tryz.prog 9 #[.int .i64 id,.slice ao al ac,.int .i64 n] w λe w'=>e=.returned (.bool true)/\Bel w w':=by
 obtain⟨PQ,HAO⟩:=Zh2 (show pq.q.size<=maxLen by simp[maxLen,pq,ByteArray.size]) hao;have hal:=hao.1;simp only[maxLen]at hal;clear hao;go_enter Tryz.func9,Tryz.ntmps9;go_wp2_with fail;refine(Qci w).zR λw1 b1=>?_
 have B1:=Zh b1;clear b1;obtain⟨i,r,hi0,hi9,hr1,hr2,hr3⟩:=rem8r id;obtain⟨o,ho⟩:∃o,1+Int.tmod i 8=o:=⟨_,rfl⟩;have hob:0<o/\o<9:=by
  have:=Int.tmod_nonneg (a:=i) 8 (by omega);have:=Int.tmod_lt_of_pos i (b:=8) (by omega);omega
 have hr4:1+i % 8=o:=by rw[<-ho,Int.tmod_eq_emod_of_nonneg (by omega)]
 have hck:=rc_any hi0 hi9;rw[ho]at hck;obtain⟨CK,HID,HIO⟩:=Zh3 hck (show Qz i=true by simp[Qz];omega) (show i64 o by simp[i64];omega);clear ho hob hck;go_upto_region 6 with (fail);clear hr1 hr2 hr3 hr4;go_wp2_with fail;refine(Cg w1 1048576 (by omega)).mono ?_;rintro e w2 ⟨rfl,hd,b2,hs⟩;obtain⟨db,hdb⟩:∃db,w1.heap.size+1=db:=⟨_,rfl⟩;have hdk:Dk (λk=>k=w1.heap.size+1\/k=w1.heap.size) (λk=>k=w1.heap.size+1\/k=w1.heap.size) w2 (w1.heap.size+1) 1048576 []:=⟨w1.heap.size,[],hd _ λ_ h=>h,rfl,by omega,by omega⟩;have hkn:=Qr0 _ _ w2 (λk hk=>by omega) (w1.heap.size+1) hdk i HID.o;rw[hdb]at hkn ⊢;obtain⟨HKN,HDB,B2⟩:=Zh3 hkn hdb b2;clear hd b2 hs hdk hkn hdb;go_wp2_with fail;refine HKN.mono ?_;rintro e w3 ⟨kb,O3,rfl,k3,kk3,n3⟩;obtain⟨B3,N3,K3⟩:=Zh3 (B2.of_kept kk3 λk hk=>by have:=HDB.o;omega) (show ∀k,O3 k->w1.heap.size<=k fromλk hk=>(n3 k hk).elim (λh=>by have:=HDB.o;omega) λh=>Nat.le_trans B2.size h) k3;clear k3 kk3 n3;go_wp2_with fail;refine(Qnh K3).mono ?_;rintro e w4 ⟨pb,rfl,-,O4,p4,kk4,n4⟩;obtain⟨B4,N4,P4⟩:=Zh3 (B3.of_kept kk4 N3.o) (show ∀k,O4 k->w1.heap.size<=k fromλk hk=>(n4 k hk).elim (N3.o k) λh=>Nat.le_trans B3.size h) p4;clear p4 kk4 n4;go_wp2_with fail;refine(Qjs (s:=Z8 i) P4).mono ?_;rintro e w5 ⟨cb,rfl,O5,q5,kk5,n5⟩;have Q5:=Zh (show At O5 (rS i o F 0) 0 w1 w5 cb pb kb db from⟨Br.mono (b:=⟨[Z8 i],Z8 i,[],[]⟩) q5 (λj _ h=>.inr h) λj h=>h,λk hk=>(n5 k hk).elim (N4 k) λh=>Nat.le_trans B4.size h,B4.of_kept kk5 N4⟩);clear q5 kk5 n5;obtain⟨m,hm⟩:=Zx (min al 8);have hmin:∀(w:World) ts ty,(Builtin.min_ ts ty #[.int .i64 al,.int .i64 8]).run Tryz.prog w=.ok (.int .i64 (m:Int)) w:=λw ts ty=>by
  rw[run_min_int2];congr 2;(try split)<;>omega
 have hma:m<=al:=by omega
 have hm8:m<=8:=by omega
 clear hm;go_upto_region 14 with (fail);clear hmin;go_loopw[15] (λa wr=>∃(k:Nat) (O:Nat->Prop) (N:Nat),k<=m/\a=.int .i64 k/\Hid (N<=5*k)/\Hid (At O (rS i o F k) N w1 wr cb pb kb db)) (λa _=>m-(intOf a).toNat)
 case atStart=>exact⟨0,O5,0,Nat.zero_le _,rfl,Zh (Nat.le_refl _),Q5⟩
 case round=>
  obtain⟨k,Ok,N,hk,rfl,hN,Qk⟩:=hrel;have CKK:=Zh (rChk_all (F:=F) 8 0 CK.o k (Nat.zero_le _) (by omega));by_cases hkm:k<m
  ·have hok:=CKK.2 (by omega)
   obtain⟨b,hb⟩:=Zx (rS i o F k);obtain⟨t,ht⟩:=Zx (rT i k);simp only[rOk,Bool.and_eq_true,beq_iff_eq]at hok;rw[<-hb,<-ht]at hok;obtain⟨⟨ok1,ok2⟩,ok3⟩:=hok;have HT:=Zh (show i64 t by rw[ht,rT];exact Qyw _ _);have hN':=hN.o;have qk:=Qk.o;rw[<-hb]at qk;have hbg:=At.begins qk (by omega);rw[ok1]at hbg;obtain⟨HBG,OK2,OK3,HB,HTT⟩:=Zh5 hbg ok2 ok3 hb ht;have hw:IntKind.i64.wrap ((k:Int)+1)=((k+1:Nat):Int):=by rw[IntKind.wrap_i64];omega
   clear qk hbg ok1 ok2 ok3 hb ht hN';go_wp2_with fail;refine HBG.mono ?_;rintro e w6 ⟨rfl,O6,q6,-⟩;have hpt:=At.put (show At O6 (ra b) (N+1) w1 w6 cb pb kb db from q6) (by have:=hN.o;omega) t HT.o pq PQ.o;rw[OK2.o]at hpt;have HPT:=Zh hpt;clear q6 hpt HBG;go_wp2_with fail;refine HPT.mono ?_;rintro e w7 ⟨rfl,O7,q7,-⟩;have Q7:=Zh (show At O7 (rb i k b) (N+2) w1 w7 cb pb kb db by rw[rb,<-HTT.o];exact q7);obtain⟨W8,hW8⟩:=Zx (w7.alloc (.cells #[.int .i64 o,.int .i64 1] 73));have b8:=Zb hW8;have s8:=Zn hW8;have hrd:Rd Fx (λk=>k<w7.heap.size) W8 (some ⟨w7.heap.size,0,none⟩) 1 [⟨o,1⟩]:=⟨[.int .i64 o,.int .i64 1],Ch.one rfl rfl,rfl,Nat.le_refl _,by simp[maxLen],λ_=>⟨w7.heap.size,0,_,_,_,rfl,Qb s8,λhk=>by omega,s8,λj u hj=>by simpa using hj⟩⟩;have hcm:=At.commit Q7.o b8 (by have:=hN.o;omega) t HT.o [⟨o,1⟩] (some ⟨w7.heap.size,0,none⟩) 1 hrd (by simp);rw[OK3.o]at hcm;obtain⟨HCM,HW8⟩:=Zh2 hcm hW8;clear q7 hW8 b8 s8 hrd hcm HPT;go_wp2_with fail;rw[<-HW8.o];refine HCM.mono ?_;rintro e w9 ⟨co,cc,O9,rfl,q9,-,-⟩;have Q9:=Zh (show At O9 (rc i o k b) (N+3) w1 w9 cb pb kb db by rw[rc,<-HTT.o];exact q9);obtain⟨vb,voff,hvo',hvlt,hvc⟩:=(HAO.bel (B1.trans Q9.2.2)).2 (by omega);have hve:w9.cell? ⟨vb,voff+k,none⟩=some (.bool (F k)):=hvc k (by omega);obtain⟨f,hf⟩:=Zx (F k);rw[<-hf]at hve;have hka:(k:Int)<(al:Int):=by omega
   have hk0:(0:Int)<=(k:Int):=by omega
   have HF:=Zh (show rS i o F (k+1)=rN i o k b f by rw[HB.o,hf];rfl);subst hvo';clear q9 hvc hf HCM;rcases f with _|_
   ·have hvt:=At.vote Q9.o (by have:=hN.o;omega) o HIO.o t HT.o true
    have HVT:=Zh hvt;clear hvt;go_wp2_with fail;refine HVT.mono ?_;rintro e w10 ⟨eo,ec,O10,rfl,q10,-,-⟩;have Q10:=Zh (show At O10 (rS i o F (k+1)) (N+5) w1 w10 cb pb kb db by rw[HF.o,rN,if_neg (by decide),rd,<-HTT.o];exact q10);clear q10;go_wp2;go_roundw
    case rel=>exact⟨k+1,O10,N+5,by omega,by go_num,Zh (by have:=hN.o;omega),Q10⟩
    case measure=>simp[intOf];omega
   ·have Q10:=Zh (show At O9 (rS i o F (k+1)) (N+3) w1 w9 cb pb kb db by rw[HF.o,rN,if_pos rfl];exact Q9.o)
    go_wp2;go_roundw
    case rel=>exact⟨k+1,O9,N+3,by omega,by go_num,Zh (by have:=hN.o;omega),Q10⟩
    case measure=>simp[intOf];omega
  obtain rfl:k=m:=by omega
  have hfin:=CKK.1;simp only[rFin,Bool.and_eq_true,beq_iff_eq]at hfin;obtain⟨hbi,hall⟩:=hfin;have hN':=hN.o;have hAl:=Br.lt Qk.1;obtain⟨⟨Op,om,C,h1,h2,-⟩,hnew,hbel⟩:=Qk.o;obtain⟨Oq,lb,lm,tb,tm,L,rfl,hd,-⟩:=h2;obtain⟨v,⟨Od,hdk,-⟩,hop⟩:=Qoh hd.k (by omega) n;rw[hbi]at hop;obtain⟨HFA,HOP,HAL,ALL,BW⟩:=Zh5 (Cz Ok Od wr hAl db 1048576 v hdk n) hop hAl hall (B1.trans hbel);clear hbi hall hN' hAl h1 hd hnew hbel hdk hop CKK;go_wp2_with fail;refine HFA.mono ?_;rintro e w7 ⟨f7,v7,O7,rfl,d7,p7,n7,b7⟩;obtain⟨HOP7,B7,N7⟩:=Zh3 (HOP.o (λk=>Ok k\/O7 k) O7 w7 f7 v7 (λk h=>h.elim (λh=>Nat.lt_of_lt_of_le (HAL.o k h) b7.size) (d7.lt k)) d7 p7) b7 n7;clear d7 p7 n7 b7 HFA HOP;go_wp2_with fail;refine HOP7.mono ?_;rintro e w8 ⟨xb,O8,s8,rfl,hs8,q8,k8,n8⟩;have hx:=List.all_eq_true.1 ALL s8 hs8;simp only[Bool.and_eq_true,beq_iff_eq]at hx;obtain⟨⟨⟨⟨⟨⟨⟨x1,x2⟩,x3⟩,x4⟩,x5⟩,x6⟩,x7⟩,x8⟩:=hx;rw[x1]at q8;obtain⟨B8,N8,K8,X2,X3,X4,X5,X6⟩:=Zh8 (B7.of_kept k8 N7.o) (show ∀k,O8 k->wr.heap.size<=k fromλk h=>(n8 k h).elim (N7.o k) λh=>Nat.le_trans B7.size h) q8 x2 x3 x4 x5 (And.intro x6 (And.intro x7 x8));clear hs8 q8 k8 n8 x1 x2 x3 x4 x5 x6 x7 x8 HOP7;go_wp2_with fail;refine(Qnh K8).mono ?_;rintro e w9 ⟨pb2,rfl,-,O9,p9,kk9,n9⟩;obtain⟨B9,N9⟩:=Zh2 (B8.of_kept kk9 N8.o) (show ∀k,O9 k->wr.heap.size<=k fromλk hk=>(n9 k hk).elim (N8.o k) λh=>Nat.le_trans B8.size h);have hcn:=Qjs p9;rw[X3.o]at hcn;have HCN:=Zh hcn;clear p9 kk9 n9 hcn;go_wp2_with fail;refine HCN.mono ?_;rintro e w10 ⟨cb2,rfl,O10,q10,kk10,n10⟩;have Q10:=Zh (show At O10 (rF s8) (N+1+0) wr w10 cb2 pb2 xb f7 from⟨Br.mono (b:=rF s8) q10 (λj _ h=>.inr h) λj h=>h,λk hk=>(n10 k hk).elim (N9 k) λh=>Nat.le_trans B9.size h,B9.of_kept kk10 N9⟩);have hlen:(rAs F k).length=k:=by simp[rAs]
  have hri:=At.rise Q10.o (by have:=hN.o;show N+1+0+(Bg s8).tx.toNat<199;rw[X2.o,hlen];omega);rw[X4.o]at hri;have HRI:=Zh hri;clear q10 kk10 n10 hri hlen HCN;go_wp2_with fail;refine HRI.mono ?_;rintro e w11 ⟨rfl,O11,q11,-⟩;have Q11:=Zh (show At O11 (rG s8) (N+1+0+(rF s8).s.tx.toNat) wr w11 cb2 pb2 xb f7 from q11);clear q11 HRI;go_wp2_with fail;refine(At.state Q11).mono ?_;rintro e w12 ⟨xm,xM,xw,xW,xe,xE,xo,xO,xn,xN,rfl,hs12,b12⟩;obtain⟨W13,hW13⟩:=Zx (w12.alloc (.cells #[.int .i64 (rG s8).s.broker,.int .i64 (rG s8).s.nextId,.int .i64 (rG s8).s.nextSeq,.int .i64 (rG s8).s.tx,.slice xm (rG s8).s.ms.length xM,.slice xw (rG s8).s.waits.length xW,.slice xe (rG s8).s.ends.length xE,.slice xo (rG s8).s.opens.length xO,.slice xn (rG s8).s.noes.length xN] 43));obtain⟨T13,Q13,HW13⟩:=Zh3 (Told.new Q11.o hs12 b12 hW13) (At.bel (At.bel Q11.o b12) (show Bel w12 W13 from hW13▸(Bel.refl _).alloc _)) hW13;obtain⟨y,hy⟩:=Zx (rG s8);rw[<-hy]at X5 X6 T13 Q13;clear hs12 b12 hW13 hkm;go_upto_region 33 with (fail);rw[<-HW13.o];go_loopw[23,24] (λc a wx=>∃j:Nat,j<=k/\a=.int .i64 j/\c=.int .i64 ((rAs F j).count true:Nat)/\Hid (Bel W13 wx)) (λ_ a _=>k-(intOf a).toNat)
  case atStart=>exact⟨0,Nat.zero_le _,rfl,rfl,Zh (Bel.refl _)⟩
  case round=>
   obtain⟨j,hj,rfl,rfl,hB⟩:=hrel;have QX:=Zh (At.bel Q13 hB);have BX:=Zh (BW.trans QX.2.2);by_cases hjk:j<k
   ·obtain⟨vb,voff,hvo',hvlt,hvc⟩:=(HAO.bel BX.o).2 (by omega)
    have hve:wr.cell? ⟨vb,voff+j,none⟩=some (.bool (F j)):=hvc j (by omega);obtain⟨f,hf⟩:=Zx (F j);rw[<-hf]at hve;obtain⟨t,ht⟩:=Zx (rT i j);have hwd:=rWd_get X5.o (j:=j) (a:=f) (by simp[rAs,hjk,hf]);rw[Nat.zero_add,<-ht]at hwd;have HMK:=Zh (λW=>refMake_any i ((j:Int)+1) W);have hmk:mk i ((j:Int)+1)=t:=by rw[ht];rfl
    obtain⟨HW,HWD,HC,HJL⟩:=Zh4 (λW (hb:Bel wr W)=>At.word (At.bel QX.o hb) t (by rw[ht];exact Qyw _ _)) hwd (show(rAs F (j+1)).count true=(rAs F j).count true+(if f=true then 1 else 0) by rw[rAs_succ,<-hf];rcases f with _|_<;>simp) (show(rAs F j).count true<=8 by have:=List.count_le_length (a:=true) (l:=rAs F j);simp[rAs]at this ⊢;omega);obtain⟨cn,hcn⟩:=Zx ((rAs F j).count true);rw[<-hcn]at HC HJL ⊢;have hcw:IntKind.i64.wrap ((cn:Int)+1)=((cn+1:Nat):Int):=by rw[IntKind.wrap_i64];have:=HJL.o;omega
    have hw:IntKind.i64.wrap ((j:Int)+1)=(j:Int)+1:=by rw[IntKind.wrap_i64];omega
    have hja:(j:Int)<(al:Int):=by omega
    have hj0:(0:Int)<=(j:Int):=by omega
    have HMM:=Zh hmk;subst hvo';clear hvc hf ht hwd hcn hmk;obtain⟨c',hc'⟩:=Zx ((rAs F (j+1)).count true);have HC':=Zh hc';have hcc:c'=cn+(if f=true then 1 else 0):=by rw[hc'];exact HC.o
    have hsame:∃wd:Int,Qcz y t=wd/\wd=if f=true then 4 else 3:=⟨_,HWD.o,rfl⟩
    obtain⟨wd,hwd1,hwd2⟩:=hsame;rw[hwd1]at HW;clear hc' hwd1;rcases f with _|_;all_goals
     simp only[if_true,if_false,Bool.false_eq_true,Nat.add_zero]at hcc hwd2;subst hcc;subst hwd2;go_wp2_with fail;refine(HMK _).mono ?_;rw[HMM.o];rintro e w14 ⟨rfl,rfl⟩;go_upto_region 38 with (fail);go_cut[146] from 135 to 146 (λb wz=>b=.bool false/\Hid (Bel wr wz))
     case first=>
      refine Zp [11] 12 (by kernel_rfl) rfl (by kernel_rfl) (λ_ d _ _ _ h=>by cases d<;>exact h) ?_;intro wo hbo hso;have i0:=Up.cell (hbo.cell hve);have BO:=Zh hbo;clear hbo hso;refine Xt 6 [0,1,4,5,6,7] (by kernel_rfl) rfl ?_;simp only[Za,List.getElem?_cons_zero,List.getElem?_cons_succ];repeat(go_big_quiet_step(fail))
      refine wpQuiet_nil ?_;clear i0;refine Qx3 5 2 3 (by kernel_rfl) rfl rfl ?_ ?_
      ·go_wp2_with fail
       refine(HW _ BO).zR λw15 b15=>?_
       have B15:=Zh (BO.trans b15);go_wp2_with fail;refine Zl b15 ?_;clear b15;refine Qx3 4 3 8 (by kernel_rfl) rfl rfl ?_ ?_
       ·go_wp2_with fail
        refine Zl ((Bel.refl _).alloc _) ?_;have hh:=heap_alloc_new w15 (.cells #[.int .i64 3,.int .i64 4] 3);have k0:=cell_of_block hh 0 _ rfl;have k1:=cell_of_block hh 1 _ rfl;have BE:=Zh (B15.trans ((Bel.refl w15).alloc (.cells #[.int .i64 3,.int .i64 4] 3)));refine Qq 3 8 (by kernel_rfl) rfl ?_;go_wp2_with fail;refine(b2i_any _ _).zS ?_;go_wp2_with fail;refine Zl (Bel.refl _) ?_;refine Qq 2 9 (by kernel_rfl) rfl ?_;go_wp2_with fail;refine Zl (Bel.refl _) ?_;refine Qq 1 10 (by kernel_rfl) rfl ?_;go_wp2_with fail;refine Zl (Bel.refl _) ?_;refine Qq 0 11 (by kernel_rfl) rfl ?_;go_wp2_with fail;refine Z6 ?_;refine X0 (by kernel_rfl) ?_;go_wp2;go_meet
        case rel=>exact⟨rfl,BE⟩
       ·go_wp2_with fail
        refine(b2i_any _ _).zS ?_;go_wp2_with fail;refine Zl (Bel.refl _) ?_;refine Qq 3 3 (by kernel_rfl) rfl ?_;go_wp2_with fail;refine Zl ((Bel.refl _).alloc _) ?_;have hh:=heap_alloc_new w15 (.cells #[.int .i64 3,.int .i64 4] 3);have k0:=cell_of_block hh 0 _ rfl;have k1:=cell_of_block hh 1 _ rfl;have BE:=Zh (B15.trans ((Bel.refl w15).alloc (.cells #[.int .i64 3,.int .i64 4] 3)));refine Qq 2 9 (by kernel_rfl) rfl ?_;go_wp2_with fail;refine Zl (Bel.refl _) ?_;refine Qq 1 10 (by kernel_rfl) rfl ?_;go_wp2_with fail;refine Zl (Bel.refl _) ?_;refine Qq 0 11 (by kernel_rfl) rfl ?_;go_wp2_with fail;refine Z6 ?_;refine X0 (by kernel_rfl) ?_;go_wp2;go_meet
        case rel=>exact⟨rfl,BE⟩
      ·go_wp2_with fail
       refine Zl ((Bel.refl _).alloc _) ?_;have hh:=heap_alloc_new wo (.cells #[.int .i64 3,.int .i64 4] 3);obtain⟨HH,BA⟩:=Zh2 hh (BO.trans ((Bel.refl wo).alloc (.cells #[.int .i64 3,.int .i64 4] 3)));clear hh;refine Qq 4 2 (by kernel_rfl) rfl ?_;go_wp2_with fail;refine(HW _ BA).zR λw15 b15=>?_
       have hh:=b15.heap HH;have k0:=cell_of_block hh 0 _ rfl;have k1:=cell_of_block hh 1 _ rfl;have BE:=Zh (BA.trans b15);go_wp2_with fail;refine Zl b15 ?_;clear b15;refine Qq 3 8 (by kernel_rfl) rfl ?_;go_wp2_with fail;refine(b2i_any _ _).zS ?_;go_wp2_with fail;refine Zl (Bel.refl _) ?_;refine Qq 2 9 (by kernel_rfl) rfl ?_;go_wp2_with fail;refine Zl (Bel.refl _) ?_;refine Qq 1 10 (by kernel_rfl) rfl ?_;go_wp2_with fail;refine Zl (Bel.refl _) ?_;refine Qq 0 11 (by kernel_rfl) rfl ?_;go_wp2_with fail;refine Z6 ?_;refine X0 (by kernel_rfl) ?_;go_wp2;go_meet
       case rel=>exact⟨rfl,BE⟩
     case rest=>
      obtain⟨rfl,hbz⟩:=hcut;go_wp2;go_roundw
      case rel=>exact⟨j+1,by omega,by go_num,by first|(rw[<-HC'.o];done)|(rw[<-HC'.o];go_num),Zh (hB.trans hbz.o)⟩
      case measure=>simp[intOf];omega
   obtain rfl:j=k:=by omega
   have hT:=Told.bel T13 hB;have e8:=cell_of_block hT.blk 8 _ rfl;have e7:=cell_of_block hT.blk 7 _ rfl;have e4:=cell_of_block hT.blk 4 _ rfl;rw[X6.1]at e8;rw[X6.2.1]at e7;rw[X6.2.2]at e4;have hct:=r_count (rAs F j);rw[show(rAs F j).length=j by simp[rAs]]at hct;obtain⟨ct,hct1⟩:=Zx ((rAs F j).count true);obtain⟨cf,hcf1⟩:=Zx ((rAs F j).count false);rw[<-hct1,<-hcf1]at hct;rw[<-hct1]at e8 ⊢;rw[<-hcf1]at e4;have hwm:IntKind.i64.wrap ((j:Int)-(ct:Int))=(cf:Int):=by rw[IntKind.wrap_i64];omega
   clear hct1 hcf1 hT hct;go_wp2;go_ret;exact⟨rfl,BX⟩
end Go.Proofs.YtkdpmdfcdgphlaaGreat

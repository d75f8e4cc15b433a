/- Part of this claim's proof. Conditions: as its theorems say. -/
import Derived.Test.YtkdpmdfcdgphlaaGreatM36
import Derived.Test.YtkdpmdfcdgphlaaGreatM37
import Derived.Test.YtkdpmdfcdgphlaaGreatM38
set_option linter.all false
set_option maxHeartbeats 16000000
set_option maxRecDepth 100000
namespace Go.Po
open Go.Mem Go.Proofs.YtkdpmdfcdgphlaaGreat
def p12:Put:=⟨⟨#[113]⟩,⟨#[98]⟩⟩
def Qtp:Rec:=⟨4,4294967297,0,false,[],[p12]⟩
def Qtq:Rec:=⟨5,4294967297,0,true,[],[]⟩
def Qtr:Rec:=⟨5,4294967297,0,false,[],[]⟩
def R6:St:=⟨2,1,1,0,[],[⟨4294967297,[p12]⟩],[],[],[]⟩
def Vl:St:=⟨2,2,2,0,[⟨8589934593,⟨#[113]⟩,⟨#[98]⟩,1,0,0⟩],[],[⟨4294967297,true⟩],[],[]⟩
theorem Qwr:Qf (Z8 2) Qtp=R6/\Qf R6 Qtq=Vl:=⟨by kernel_rfl,by kernel_rfl⟩
theorem Qws:Zf (Z8 2) Qtp=0/\Zf R6 Qtq=0/\Zf Vl Qtr=9:=by decide +kernel
theorem Qhc:J5 R6=[]/\J5 Vl=[]:=by decide +kernel
theorem Qq3:Bg R6=R6/\Bg Vl=Vl:=by
 unfold Bg;rw[Qhc.1,Qhc.2];exact⟨rfl,rfl⟩
theorem Qwt:(encS Vl).length<=900:=by decide +kernel
end Go.Po
namespace Go.Proofs.YtkdpmdfcdgphlaaGreat
open Tryz
open Go.RowKit Go.Mem Go.Po
theorem Qo8(s:St)(b:Option Addr)(a:Nat)(j:Option Addr)(f:Nat)(g:Option Addr)(c:Nat)(i:Option Addr)(e:Nat)(h:Option Addr)(d:Nat)(W:World):(Instr.field 43 (.agg #[.int .i64 s.broker,.int .i64 s.nextId,.int .i64 s.nextSeq,.int .i64 s.tx,.slice b s.ms.length a,.slice j s.waits.length f,.slice g s.ends.length c,.slice i s.opens.length e,.slice h s.noes.length d]) 4).run prog W=.ok (.slice b s.ms.length a) W:=by
 simp[Instr.field,go_sem];rfl
theorem Qmw:Yes 135:=λw=>by
 obtain⟨RUN,CAN,GIV,ENC⟩:=Zh4 Qwr Qws Qq3 Qwt;have it:i64 4294967297:=by simp[i64]
 have i0:i64 0:=by simp[i64]
 obtain⟨II,NILI,NILP⟩:=Zh3 (And.intro it i0) (fun (A:Nat->Prop) w=>Rd.nil Qh A w none 0 (Nat.zero_le _)) (fun (A:Nat->Prop) w=>Rd.nil Qw A w none 0 (Nat.zero_le _));clear it i0;go_enter func135,ntmps135;go_wp2_with fail;refine(Cg w 1048576 (by omega)).mono ?_;rintro e w1 ⟨rfl,hd,b1,hs⟩;have hdk:Dk (λk=>k=w.heap.size+1\/k=w.heap.size) (λk=>k=w.heap.size+1\/k=w.heap.size) w1 (w.heap.size+1) 1048576 []:=⟨w.heap.size,[],hd _ λ_ h=>h,rfl,by omega,by omega⟩;obtain⟨O,hO⟩:=Zx (λk=>k=w.heap.size+1\/k=w.heap.size);obtain⟨db,hb⟩:=Zx (w.heap.size+1);have hno:∀k,O k->w.heap.size<=k:=λk h=>by rw[hO]at h;omega
 rw[<-hO]at hdk;rw[<-hb]at hdk ⊢;obtain⟨HKN,B1,NO⟩:=Zh3 (Qr0 O O w1 hdk.lt db hdk 2 rfl) b1 hno;clear hd b1 hs hdk hO hb hno;go_wp2_with fail;refine HKN.mono ?_;rintro e w2 ⟨kb,O2,rfl,q2,k2,n2⟩;have hq2:Kq 0 O2 O2 w2 kb db [Z8 2] (Z8 2):=q2.mono (λ_ _ h=>.inr h) λ_ h=>h
 obtain⟨B2,N2⟩:=Zh2 (B1.of_kept k2 NO.o) (show ∀k,O2 k->w.heap.size<=k fromλk h=>(n2 k h).elim (NO.o k) λh=>Nat.le_trans B1.size h);obtain⟨W3,hW3⟩:=Zx (w2.alloc (.cells #[.string ⟨#[113]⟩,.string ⟨#[98]⟩] 33));have b3:=Zb hW3;have p3:=Zn hW3;have hu:Rd Qw O2 W3 (some ⟨w2.heap.size,0,none⟩) 1 [p12]:=⟨[.string ⟨#[113]⟩,.string ⟨#[98]⟩],Ch.one rfl rfl,rfl,Nat.le_refl _,by simp[maxLen],λ_=>⟨w2.heap.size,0,_,_,_,rfl,Qb p3,λhk=>absurd (hq2.lt _ hk) (by omega),p3,λj u hj=>by simpa using hj⟩⟩;have hwr:=Uj (hq2.bel b3) (λk h=>Nat.lt_of_lt_of_le (hq2.lt k h) b3.size) (by omega) Qtp none 0 (some ⟨w2.heap.size,0,none⟩) 1 II.1 II.2 (NILI.o _ _) hu true CAN.1;rw[if_pos rfl,RUN.1]at hwr;obtain⟨HWR,HW3,B3⟩:=Zh3 (show Calls prog 63 #[.pointer (some ⟨kb,0,none⟩),.agg #[.int .i64 4,.int .i64 4294967297,.int .i64 0,.bool false,.slice none 0 0,.slice (some ⟨w2.heap.size,0,none⟩) 1 1],.bool true] W3 _ from hwr) hW3 (B2.trans b3);clear q2 hq2 k2 n2 hW3 b3 p3 hu hwr HKN;go_wp2_with fail;rw[<-HW3.o];refine HWR.mono ?_;rintro e w4 ⟨rfl,O4,q4,k4,n4⟩;obtain⟨B4,N4⟩:=Zh2 (B3.of_kept k4 N2.o) (show ∀k,O4 k->w.heap.size<=k fromλk h=>(n4 k h).elim (N2.o k) λh=>Nat.le_trans B3.size h);have hq4:Kq 1 O4 O4 w4 kb db [R6] R6:=q4.mono (λ_ _ h=>.inr h) λ_ h=>h
 have hwr:=Uj hq4 hq4.lt (by omega) Qtq none 0 none 0 II.1 II.2 (NILI.o _ _) (NILP.o _ _) false CAN.2.1;rw[if_neg (by decide),RUN.2]at hwr;have HWR4:=Zh (show Calls prog 63 #[.pointer (some ⟨kb,0,none⟩),.agg #[.int .i64 5,.int .i64 4294967297,.int .i64 0,.bool true,.slice none 0 0,.slice none 0 0],.bool false] w4 _ from hwr);clear q4 hq4 k4 n4 hwr HWR HW3;go_wp2_with fail;refine HWR4.mono ?_;rintro e w5 ⟨rfl,O5,q5,k5,n5⟩;obtain⟨B5,N5⟩:=Zh2 (B4.of_kept k5 N4.o) (show ∀k,O5 k->w.heap.size<=k fromλk h=>(n5 k h).elim (N4.o k) λh=>Nat.le_trans B4.size h);have hq5:Kq 2 O5 O5 w5 kb db [R6,Vl] Vl:=q5.mono (λ_ _ h=>.inr h) λ_ h=>h
 have hwr:=Qfb hq5 (by omega) Qtr none 0 none 0 II.1 II.2 (NILI.o _ _) (NILP.o _ _) (by simp[Qtr]) true (by rw[CAN.2.2];decide);rw[CAN.2.2]at hwr;obtain⟨HWR5,Q5⟩:=Zh2 (show Calls prog 63 #[.pointer (some ⟨kb,0,none⟩),.agg #[.int .i64 5,.int .i64 4294967297,.int .i64 0,.bool false,.slice none 0 0,.slice none 0 0],.bool true] w5 _ from hwr) hq5;clear q5 hq5 k5 n5 hwr HWR4;go_wp2_with fail;refine HWR5.zR λw6 b6=>?_
 obtain⟨Q6,B6⟩:=Zh2 (Q5.bel b6) (B5.trans b6);obtain⟨v,⟨Od,hd,hod⟩,hop⟩:=Qoh Q6.o (by omega) 0;obtain⟨HFA,HOP⟩:=Zh2 (Cz O5 Od w6 Q6.lt db 1048576 v hd 0) hop;clear b6 hd hod hop HWR5;go_wp2_with fail;refine HFA.mono ?_;rintro e w7 ⟨f7,v7,O7,rfl,d7,p7,n7,b7⟩;have hop:=HOP (λk=>O5 k\/O7 k) O7 w7 f7 v7 (λk h=>h.elim (λh=>Nat.lt_of_lt_of_le (Q6.lt k h) b7.size) (d7.lt k)) d7 p7;obtain⟨HOP7,B7,N7⟩:=Zh3 (show Calls prog 36 #[.pointer (some ⟨f7,0,none⟩),.int .i64 2] w7 _ from hop) b7 n7;clear d7 p7 n7 b7 hop HFA HOP;go_wp2_with fail;refine HOP7.mono ?_;rintro e w8 ⟨xb,O8,s8,rfl,hs8,q8,k8,n8⟩;have hb8:=B7.of_kept k8 N7;obtain⟨B8,Q8⟩:=Zh2 (B6.trans hb8) (Q6.bel hb8);obtain⟨N,hN⟩:=Zx (2+1+(J5 s8).length);rw[<-hN]at q8;have hx:Bg s8=s8/\(s8.waits.length:Int)+s8.ms.length=1:=by
  simp only[List.mem_cons,List.not_mem_nil,or_false]at hs8;rcases hs8 with rfl|rfl
  ·exact⟨GIV.1,rfl⟩
  ·exact⟨GIV.2,rfl⟩
 rw[hx.1]at q8;obtain⟨X8,HX,XN,HPK⟩:=Zh4 q8 hx.2 (show ∀k,O8 k->w6.heap.size<=k fromλk h=>(n8 k h).elim (N7.o k) λh=>Nat.le_trans B7.size h) (Qx4 (m:=3) Q8.o Q8.lt (by omega) (by omega) (by have:=ENC.o;omega));clear hb8 hN hx hs8 q8 k8 n8 HOP7;go_wp2_with fail;refine HPK.mono ?_;rintro e w9 ⟨rfl,O9,q9,l9,k9,n9⟩;obtain⟨B9,Q9,L9,X9⟩:=Zh4 (B8.of_kept k9 N5.o) (show Kq 3 O9 O9 w9 kb db [Vl] Vl from q9.mono (λ_ _ h=>.inr h) λ_ h=>h) l9 (X8.keep (B:=λk=>(O5 k\/O7 k)\/O8 k) k9 (λk h h5=>by have:=XN.o k h;have:=Q6.lt k h5;omega) (λk h=>.inl (.inl h)) (λ_ _ h=>h) X8.oa);obtain⟨v,⟨Od,hd,hod⟩,hop⟩:=Qoh Q9.o (by omega) 0;obtain⟨HFA,HOP⟩:=Zh2 (Cz O9 Od w9 Q9.lt db 1048576 v hd 0) hop;clear q9 l9 k9 n9 hd hod hop HPK;go_wp2_with fail;refine HFA.mono ?_;rintro e w10 ⟨f10,v10,O10,rfl,d10,p10,n10,b10⟩;have hop:=HOP O10 O10 w10 f10 v10 d10.lt (d10.mono (λ_ _ h=>.inr h) λ_ h=>h) p10;obtain⟨HOP10,BB10,N10⟩:=Zh3 (show Calls prog 36 #[.pointer (some ⟨f10,0,none⟩),.int .i64 2] w10 _ from hop) b10 n10;clear d10 p10 n10 b10 hop HFA HOP;go_wp2_with fail;refine HOP10.mono ?_;rintro e w11 ⟨yb,O11,s11,rfl,hs11,q11,k11,n11⟩;obtain rfl:=List.mem_singleton.1 hs11;have hb11:=BB10.of_kept k11 N10;obtain⟨B11,X11,Q11⟩:=Zh3 (B9.trans hb11) (X9.bel hb11) (Q9.bel hb11);obtain⟨AL,OL,vl,frm,e1,e2,e3,e4,e5,e6⟩:=L9.bel hb11;rw[GIV.2]at q11;obtain⟨M,hM⟩:=Zx (3+1+(J5 Vl).length);rw[<-hM]at q11;obtain⟨Y11,HFA,HL⟩:=Zh3 q11 (Cz (λk=>k<w11.heap.size/\AL k) OL w11 (λk h=>h.1) db 1048576 vl (e1.mono (λk _ h=>h.2) (λk h=>⟨e1.lt k h,e1.oa k h⟩)) 0) (And.intro e3 (And.intro e4 (And.intro e5 e6)));clear hs11 q11 k11 n11 hb11 e1 e2 e3 e4 e5 e6 hM HOP10;go_wp2_with fail;refine HFA.mono ?_;rintro e w12 ⟨f12,v12,O12,rfl,d12,p12,n12,b12⟩;have nm:=HL.2.1;have g1:Qg Zr v12=none:=by rw[Mm (Qcm nm) p12,Pe 0 Zr nm,HL.2.2.1];rfl
 obtain⟨l1,l2⟩:=Tf (n:=0) (f:=⟨laidB Vl frm,(laidB Vl frm).length,true⟩) rfl (.inr rfl);have g2:Qg Xd v12=some ⟨laidB Vl frm,(laidB Vl frm).length,true⟩:=by rw[Mm (Qcm nm) p12,Pe 0 Xd nm,HL.2.2.2,Option.bind_some,if_pos l1,l2]
 have hop:=Qg0 O12 O12 w12 d12.lt f12 1048576 v12 (d12.mono (λ_ _ h=>.inr h) λ_ h=>h) 3 rfl Vl Q11.good.may frm HL.1 _ g1 g2 rfl (by decide);obtain⟨HOP12,BB12,N12⟩:=Zh3 hop b12 n12;clear d12 p12 n12 b12 nm g1 l1 l2 g2 hop HFA;go_wp2_with fail;refine HOP12.zR λw13 k13=>?_
 have hb13:=BB12.of_kept k13 N12;obtain⟨B13,X13,Y13,Q13⟩:=Zh4 (B11.trans hb13) (X11.bel hb13) (Y11.bel hb13) (Q11.bel hb13);clear k13 hb13 HOP12;go_wp2_with fail;refine(Qwq w13).zR λw14 b14=>?_
 have B14:=Zh b14;clear b14;go_wp2_with fail;refine(Qym w14).zR λw15 b15=>?_
 have B15:=Zh (B14.trans b15);clear b15;go_wp2_with fail;refine(Ve (X13.bel B15)).mono ?_;rintro e w16 ⟨xm,xM,xw,xW,xe,xE,xo,xO,xn,xN,rfl,-,b16⟩;have B16:=Zh (B15.trans b16);have hf5:=Qzp s8 xm xM xw xW xe xE xo xO xn xN;obtain⟨na,hna⟩:=Zx s8.waits.length;obtain⟨nb,hnb⟩:=Zx s8.ms.length;have hab:(na:Int)+(nb:Int)=1:=by rw[hna,hnb];exact HX.o
 have hwr:IntKind.i64.wrap ((na:Int)+(nb:Int))=1:=by rw[hab];rfl
 have HNB:=Zh hnb;rw[<-hna,<-hnb]at hf5;rw[<-hna,<-hnb];clear b16 hna hab hnb;go_wp2_with fail;refine(Ve (X13.bel B16)).mono ?_;rintro e w17 ⟨ym,yM,yw,yW,ye,yE,yo,yO,yn,yN,rfl,-,b17⟩;have B17:=Zh (B16.trans b17);have hf4:=Qo8 s8 ym yM yw yW ye yE yo yO yn yN;rw[<-HNB.o]at hf4;rw[<-HNB.o];clear b17 hf5;go_wp2_with fail;refine(Ve (Y13.bel B17)).mono ?_;rintro e w18 ⟨zm,zM,zw,zW,ze,zE,zo,zO,zn,zN,rfl,-,b18⟩;have B18:=Zh (B17.trans b18);have hg4:=Qo8 Vl zm zM zw zW ze zE zo zO zn zN;rw[show Vl.ms.length=1 from rfl]at hg4;rw[show Vl.ms.length=1 from rfl];clear b18 hf4 hwr;go_wp2_with fail;refine(Ve (Q13.bel B18)).mono ?_;rintro e w19 ⟨um,uM,uw,uW,ue,uE,uo,uO,un,uN,rfl,-,b19⟩;have B19:=Zh (B18.trans b19);have hh4:=Qo8 Vl um uM uw uW ue uE uo uO un uN;rw[show Vl.ms.length=1 from rfl]at hh4;rw[show Vl.ms.length=1 from rfl];clear b19 hg4;go_wp2_with fail;refine(Qy7 (Q13.bel B19)).zS ?_;clear hh4;go_wp2;go_ret;exact⟨rfl,B13.trans B19⟩
theorem Qwu:Yes 55:=λw=>by
 go_enter func55,ntmps55;go_wp2_with fail;refine(Qmw w).zR λa a=>?_
 have b:=Zh a;clear a;go_wp2;go_ret;exact⟨rfl,b⟩
def frB(x:ByteArray):Int:=match x.data.toList with
 | []=>0
 | a::_=>a.toNat
theorem Qw6:Ranks sX sA (frB sX) (frB sA)/\Ranks sA sX (frB sA) (frB sX)/\Ranks sX sX (frB sX) (frB sX):=by
 refine⟨⟨?_,?_⟩,⟨?_,?_⟩,⟨?_,?_⟩⟩<;>decide +kernel
theorem Qyn:Z5 (λx:Sm=>frB x.x) (frB sA) [⟨sX,2⟩]=0/\Qt (λx:Sm=>frB x.x) (frB sA) [⟨sX,2⟩]=false/\Z5 (λx:Sm=>frB x.x) (frB sX) lAX=1/\Qt (λx:Sm=>frB x.x) (frB sX) lAX=true:=⟨by decide +kernel,by decide +kernel,by decide +kernel,by decide +kernel⟩
theorem Qyo{α:Type}(f:α->Int):Jv f ([]:List α):=λi j x y _ h=>by simp at h
theorem Qyp{α:Type}(f:α->Int)(a:α):Jv f [a]:=λi j x y h b b=>by
 have:=(List.getElem?_eq_some_iff.1 b).1;simp at this;omega
theorem Qts:Jv (λx:Sm=>frB x.x) lAX:=λi j x y h b a=>by
 have:=(List.getElem?_eq_some_iff.1 a).1;simp only[lAX,List.length_cons,List.length_nil]at this;obtain⟨rfl,rfl⟩:i=0/\j=1:=by omega
 cases b;cases a;show frB sA<frB sX;decide +kernel
def t70:List (Int×Int):=[(7,0)]
theorem Qyq:Qo 7 0 ([]:List (Int×Int))=t70/\Qo 7 0 t70=t70/\(Qn 7 ([]:List (Int×Int))).isSome=false/\(Qn 7 t70).isSome=true/\late 2 t70=[]/\older t70=[(7,1)]/\late 2 [(7,1)]=[7]/\older [(7,1)]=[(7,2)]/\Qn 7 ([(7,2)]:List (Int×Int))=some 2/\Qn 8 ([(7,2)]:List (Int×Int))=none/\Xn 7 ([(7,2)]:List (Int×Int))=[]:=⟨by decide +kernel,by decide +kernel,by decide +kernel,by decide +kernel,by decide +kernel,by decide +kernel,by decide +kernel,by decide +kernel,by decide +kernel,by decide +kernel,by decide +kernel⟩
theorem Qpe(w:World):Calls prog 311 #[] w λe w'=>e=.returned (.bool true)/\Bel w w':=by
 obtain⟨t,q,a⟩:=Zh3 Qw6 Qyn Qyq;have n:i64 7:=by simp[i64]
 have o:i64 8:=by simp[i64]
 have h:=Zh (And.intro n o);clear n o;go_enter func311,ntmps311;go_wp2_with fail;refine(Qpi w).mono ?_;rintro e W ⟨rfl,c,A,d⟩;obtain⟨v,L⟩:=Zh2 c d;clear c d;go_wp2_with fail;refine(Qap 2 W).mono ?_;rintro e s ⟨f,c,rfl,i,b2,B,C⟩;have r:=L.o s.heap.size s b2 (by have:=b2.size;omega) (Nat.le_refl _);obtain⟨b,y⟩:=Zx w.heap.size;rw[<-y]at r A ⊢;obtain⟨l,z⟩:=Zx s.heap.size;rw[<-z]at r;obtain⟨E,O,j,m,d⟩:=Zh5 r i (show ¬(f=b\/l<=f)/\¬(c=b\/l<=c) from⟨by have:=i.ltb;omega,by have:=i.ltm;omega⟩) (show w.heap.size<=b/\w.heap.size<=l/\w.heap.size<=c from⟨by omega,by have:=v.size;have:=b2.size;omega,by have:=v.size;omega⟩) (show b≠c/\c<l from⟨by omega,by have:=i.ltm;omega⟩);clear i b2 B C r z y A;go_wp2_with fail;refine(Qpj s).zS ?_;go_wp2_with fail;refine(Qes E.o (by simp) frB sX (Qyo _) (λx i=>by cases i) rfl 2 (by omega)).mono ?_;rintro e X ⟨rfl,r,k3⟩;obtain⟨F,P⟩:=Zh2 (show Yi w l X b [⟨sX,2⟩] from r) (O.keep k3 j.1 j.2);clear r k3;go_wp2_with fail;refine(Qes F.o (by simp) frB sA (Qyp _ _) (λx i=>by obtain rfl:=List.mem_singleton.1 i;exact t.1) q.2.1 1 (by omega)).mono ?_;rw[q.1];rintro e Y ⟨rfl,r,y⟩;obtain⟨z,Q⟩:=Zh2 (show Yi w l Y b lAX from r) (P.keep y j.1 j.2);clear r y;go_wp2_with fail;refine(Qq7 z).mono ?_;rw[show sX=(⟨#[120]⟩:ByteArray) from rfl];rintro e ak ⟨rfl,r⟩;obtain⟨G,R⟩:=Zh2 (z.mv r) (Q.bel r);clear r;go_wp2_with fail;refine(Qpk G.o frB Qts (λx i=>by
  simp only[lAX,List.mem_cons,List.not_mem_nil,or_false]at i;rcases i with rfl|rfl
  ·exact t.2.1
  ·exact t.2.2) q.2.2.1 q.2.2.2).mono ?_
 rintro e Z ⟨rfl,i,r⟩;obtain⟨H,S⟩:=Zh2 i (R.keep r j.1 j.2);clear i r;go_wp2_with fail;refine(Vi 7 h.1 Z f 2 c [] S.o (by rw[a.1];simp[t70])).mono ?_;rw[a.1,a.2.2.1];rintro e aa ⟨rfl,i,n⟩;obtain⟨T,I⟩:=Zh2 i (H.kp n m.2.2 d.1 d.2);clear i n;go_wp2_with fail;refine(Vi 7 h.1 aa f 2 c t70 T.o (by rw[a.2.1];simp[t70])).mono ?_;rw[a.2.1,a.2.2.2.1];rintro e w8 ⟨rfl,i,o⟩;obtain⟨U,J⟩:=Zh2 i (I.kp o m.2.2 d.1 d.2);clear i o;go_wp2_with fail;refine(Qdn w8 f 2 c t70 U.o (λp i=>by obtain rfl:=List.mem_singleton.1 i;exact h.1) (λp i=>by obtain rfl:=List.mem_singleton.1 i;decide)).mono ?_;rw[a.2.2.2.2.1,a.2.2.2.2.2.1];rintro e ab ⟨af,ae,rfl,r,o,n⟩;obtain⟨V,K⟩:=Zh2 o (J.kp n m.2.2 d.1 d.2);clear r o n;go_wp2_with fail;refine(Qdn ab f 2 c [(7,1)] V.o (λp i=>by obtain rfl:=List.mem_singleton.1 i;exact h.1) (λp i=>by obtain rfl:=List.mem_singleton.1 i;decide)).mono ?_;rw[a.2.2.2.2.2.2.1,a.2.2.2.2.2.2.2.1];rintro e aj ⟨ai,ah,rfl,n,t10,i⟩;obtain⟨M,r⟩:=Zh2 t10 (K.kp i m.2.2 d.1 d.2);obtain⟨g,off,rfl,ac,c0⟩:=Yf n.rd0 (k:=0) (x:=7) rfl;simp only[Nat.add_zero]at c0;have B:=Zh c0;clear n t10 i;go_wp2_with fail;refine(Qpl r).zR λo i=>?_
 obtain⟨y,n,C⟩:=Zh3 (r.mv i) (M.bel i) (i.cell B.o);clear i;go_wp2_with fail;refine(Qa5 y).zS ?_;have c1:=C.o;have ad:=Zd c1;go_wp2_with fail;refine(Qaq 7 h.1 o f 2 c [(7,2)] n).mono ?_;rw[a.2.2.2.2.2.2.2.2.1];rintro e i ⟨rfl,rfl⟩;go_wp2_with fail;refine(Qaq 8 h.2 o f 2 c [(7,2)] n).mono ?_;rw[a.2.2.2.2.2.2.2.2.2.1];rintro e i ⟨rfl,rfl⟩;go_wp2_with fail;refine(P8 7 h.1 o f 2 c [(7,2)] n).mono ?_;rw[show(Qn 7 ([(7,2)]:List (Int×Int))).isSome=true from by rw[a.2.2.2.2.2.2.2.2.1];rfl,a.2.2.2.2.2.2.2.2.2.2];rintro e i ⟨rfl,A,o⟩;obtain⟨N,D⟩:=Zh2 A (y.kp o m.2.2 d.1 d.2);clear A o;go_wp2_with fail;refine(Lj 7 h.1 i f 2 c [] N).mono ?_;rw[a.2.2.1];rintro e o ⟨rfl,rfl⟩;go_wp2;go_ret;exact⟨rfl,D.bel⟩
theorem Qyr:Yes 221:=λw=>by
 go_enter func221,ntmps221;go_wp2_with fail;refine(Qpe w).zR λa a=>?_
 have b:=Zh a;clear a;go_wp2;go_ret;exact⟨rfl,b⟩
theorem Qw8:Yes 56:=λw=>by
 go_enter func56,ntmps56;go_wp2_with fail;refine(Qo9 Qyr w).zR λa a=>?_
 have b:=Zh a;clear a;go_wp2;go_ret;exact⟨rfl,b⟩
theorem Qci:Yes 15:=Qpa Qwu Qw8
end Go.Proofs.YtkdpmdfcdgphlaaGreat

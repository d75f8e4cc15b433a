/- Part of this claim's proof. Conditions: as its theorems say. -/
import Derived.Test.YtkdpmdfcdgphlaaGreatM34
set_option linter.all false
set_option maxHeartbeats 8000000
set_option maxRecDepth 100000
namespace Go.Po
open Go.Mem Go.Proofs.YtkdpmdfcdgphlaaGreat
def t17:Int:=8589934593
def u17:Int:=4294967297
def p17:Put:=⟨⟨#[113]⟩,⟨#[120]⟩⟩
def a0:Br:=⟨[Z8 1],Z8 1,[],[]⟩
def a1:Br:=Qer a0 t17 p17
def a2:Br:=Gx a1 t17 1
def a3:Br:=Qch a2 t17 true
def a4:Br:=(Cr a3).2
def a5:Br:=Qi8 a4 u17 ⟨#[113]⟩
def a6:Br:=(Uz a5 u17 [⟨2,1⟩]).2
def a7:Br:=(Bw a6 2 u17 false).2
theorem Qww:Ga a0.s a0.G t17 p17=0/\(Ku a1.l a1.s a1.G t17 1).1=(true,0)/\(Bz a2.l a2.s a2.G t17 true).1=0/\(Cr a3).1=(u17,0):=by decide +kernel
theorem Qyh:takeC a4.s a4.G u17 ⟨#[113]⟩=0/\(Gs a4.s a4.G u17 ⟨#[113]⟩).b=⟨#[120]⟩:=by decide +kernel
theorem Qzk:(Uz a5 u17 [⟨2,1⟩]).1.2=11/\(Uz a5 u17 [⟨2,1⟩]).1.1.map (λp=>p.kind)=[1]:=by decide +kernel
theorem Qzl:(Bw a6 2 u17 false).1.2=0/\(Bw a6 2 u17 false).1.1.map (λp=>(p.kind,p.yes))=[(3,false)]:=by decide +kernel
theorem Qzm:Qcz a7 u17=4/\a7.s.noes.length=1/\(Uo a7 2 u17).length=1:=by decide +kernel
end Go.Po
namespace Go.Proofs.YtkdpmdfcdgphlaaGreat
open Tryz
open Go.RowKit Go.Mem Go.Po
theorem Hw{α a:Type}{f:α->a}{l:List α}{y:a}(h:l.map f=[y]):l.length=1/\∃x,l[0]?=some x/\f x=y:=by
 match l,h with
 | [x],h=>exact⟨rfl,x,rfl,by simpa using h⟩
theorem Qpa(h12:Yes 55)(h13:Yes 56):Yes 15:=λw=>by
 obtain⟨H12,H13⟩:=Zh2 h12 h13;have ht:i64 8589934593:=by simp[i64]
 have hu:i64 4294967297:=by simp[i64]
 have h2:i64 2:=by simp[i64]
 obtain⟨KK,AC,AT,AM,AV,AE⟩:=Zh6 (And.intro ht (And.intro hu h2)) Qww Qyh Qzk Qzl Qzm;clear h12 h13 ht hu h2;go_enter func15,ntmps15;go_wp2_with fail;refine(R7 1 rfl w).mono ?_;rintro e w1 ⟨kb,pb,cb,db,O,rfl,q1,b1,n1⟩;have Q1:=Zh (show At O a0 0 w w1 cb pb kb db from⟨q1,n1,b1⟩);clear q1 b1 n1;go_wp2_with fail;refine(At.put Q1.o (by omega) 8589934593 KK.1 ⟨⟨#[113]⟩,⟨#[120]⟩⟩ (by simp[maxLen,ByteArray.size])).mono ?_;rw[show Ga a0.s a0.G 8589934593 ⟨⟨#[113]⟩,⟨#[120]⟩⟩=0 from AC.1];rintro e w2 ⟨rfl,O2,q2,-⟩;have Q2:=Zh (show At O2 a1 1 w w2 cb pb kb db from q2);clear q2;go_wp2_with fail;refine(At.prep Q2.o (by omega) 8589934593 KK.1 1).mono ?_;rw[show(Ku a1.l a1.s a1.G 8589934593 1).1=(true,0) from AC.2.1];rintro e w3 ⟨rfl,O3,q3,-⟩;have Q3:=Zh (show At O3 a2 2 w w3 cb pb kb db from q3);clear q3;go_wp2_with fail;refine(At.say Q3.o (by omega) 8589934593 KK.1 true).mono ?_;rw[show(Bz a2.l a2.s a2.G 8589934593 true).1=0 from AC.2.2.1];rintro e w4 ⟨rfl,O4,q4,-⟩;have Q4:=Zh (show At O4 a3 3 w w4 cb pb kb db from q4);clear q4;go_wp2_with fail;refine(At.begins Q4.o (by omega)).mono ?_;rw[show(Cr a3).1=(4294967297,0) from AC.2.2.2];rintro e w5 ⟨rfl,O5,q5,-⟩;have Q5:=Zh (show At O5 a4 4 w w5 cb pb kb db from q5);clear q5;go_wp2_with fail;refine(At.take Q5.o (by omega) 4294967297 KK.2.1 ⟨#[113]⟩ (by simp[maxLen,ByteArray.size])).mono ?_;rw[show takeC a4.s a4.G 4294967297 ⟨#[113]⟩=0 from AT.1];obtain⟨mm,hmm⟩:=Zx (Gs a4.s a4.G 4294967297 ⟨#[113]⟩);have hmb:mm.b=⟨#[120]⟩:=by rw[hmm];exact AT.2
 rw[<-hmm,show F6 mm=#[.int .i64 mm.id,.string mm.q,.string mm.b,.int .i64 mm.seq,.int .i64 mm.cnt,.int .i64 mm.who] from rfl];rintro e w6 ⟨rfl,O6,q6,-⟩;have Q6:=Zh (show At O6 a5 5 w w6 cb pb kb db from q6);obtain⟨W7,hW7⟩:=Zx ((w6.alloc (.cells #[.int .i64 mm.id,.string mm.q,.string mm.b,.int .i64 mm.seq,.int .i64 mm.cnt,.int .i64 mm.who] 47)).alloc (.cells #[.int .i64 2,.int .i64 1] 73));have b7:=hW7▸((Bel.refl _).alloc _).alloc _;have m7:W7.heap[w6.heap.size]?=some (.cells #[.int .i64 mm.id,.string mm.q,.string mm.b,.int .i64 mm.seq,.int .i64 mm.cnt,.int .i64 mm.who] 47 (0,0)):=by rw[hW7];exact Ke _ _ _
 have s7:W7.heap[w6.heap.size+1]?=some (.cells #[.int .i64 2,.int .i64 1] 73 (0,0)):=by rw[hW7];exact Jc _ _ _
 have hrd:Rd Fx (λk=>k<w6.heap.size) W7 (some ⟨w6.heap.size+1,0,none⟩) 1 [⟨2,1⟩]:=⟨[.int .i64 2,.int .i64 1],Ch.one rfl rfl,rfl,Nat.le_refl _,by simp[maxLen],λ_=>⟨w6.heap.size+1,0,_,_,_,rfl,Qb s7,λhk=>by omega,s7,λj u hj=>by simpa using hj⟩⟩;obtain⟨hl1,x1,hx1,hk1⟩:=Hw AM.2;have hcm:=At.commit Q6.o b7 (by omega) 4294967297 KK.2.1 [⟨2,1⟩] (some ⟨w6.heap.size+1,0,none⟩) 1 hrd (by simp);rw[show(Uz a5 4294967297 [⟨2,1⟩]).1.1.length=1 from hl1,show(Uz a5 4294967297 [⟨2,1⟩]).1.2=11 from AM.1]at hcm;obtain⟨HCM,M7,HW7,HX1,HMB⟩:=Zh5 hcm m7 hW7 (And.intro hx1 hk1) hmb;clear q6 hmm hmb hW7 b7 m7 s7 hrd hl1 hx1 hk1 hcm;go_wp2_with fail;rw[<-HW7.o];refine HCM.mono ?_;rintro e w8 ⟨ao,cap,O8,rfl,q8,r8,v8⟩;obtain⟨M8,N8,Q8,R8⟩:=Zh4 (Moves.heap v8 (λh=>by have:=Br.lt Q6.1 _ h;omega) M7.o) (Moves.no v8 (k:=w6.heap.size) (λh=>by have:=Br.lt Q6.1 _ h;omega) (Qb M7.o)) (show At O8 a6 6 w w8 cb pb kb db from q8) r8;clear q8 r8 v8;obtain⟨hl2,x2,hx2,hk2⟩:=Hw AV.2;have hvt:=At.vote Q8.o (by omega) 2 KK.2.2 4294967297 KK.2.1 false;rw[show(Bw a6 2 4294967297 false).1.1.length=1 from hl2,show(Bw a6 2 4294967297 false).1.2=0 from AV.1]at hvt;obtain⟨HVT,HX2⟩:=Zh2 hvt (And.intro hx2 hk2);clear hl2 hx2 hk2 hvt;go_wp2_with fail;refine HVT.mono ?_;rintro e w9 ⟨ao2,cap2,O9,rfl,q9,r9,v9⟩;obtain⟨M9,P9,Q9,R9⟩:=Zh4 (Moves.heap v9 N8.o M8.o) (Moves.rd v9 R8.o) (show At O9 a7 8 w w9 cb pb kb db from q9) r9;clear q9 r9 v9;go_wp2_with fail;refine(H12 w9).zR λw10 b10=>?_
 have C10:=Zh b10;clear b10;go_wp2_with fail;refine(H13 w10).zR λw11 b11=>?_
 have C11:=Zh (C10.trans b11);clear b11;go_wp2_with fail;refine(Qwv w11).zR λw12 b12=>?_
 have C12:=Zh (C11.trans b12);clear b12;have d2:=cell_of_block (C12.heap M9) 2 _ rfl;rw[HMB.o]at d2;obtain⟨g,off,hao,hg,e0,-⟩:=Nu (P9.bel C12.o) HX1.1;obtain⟨g2,off2,hao2,hg2,f0,-,-,-,-,f5⟩:=Nu (R9.bel C12.o) HX2.1;rw[HX1.2]at e0;rw[show x2.kind=3 from congrArg Prod.fst HX2.2]at f0;rw[show x2.yes=false from congrArg Prod.snd HX2.2]at f5;simp only[Nat.zero_mul,Nat.add_zero]at e0 f0 f5;subst hao;subst hao2;go_wp2_with fail;refine(At.word (At.bel Q9 C12) 4294967297 KK.2.1).mono ?_;rw[show Qcz a7 4294967297=4 from AE.1];rintro e w13 ⟨rfl,b13⟩;have C13:=Zh (C12.trans b13);clear b13 d2 e0 f0 f5;go_wp2_with fail;refine(At.state (At.bel Q9 C13)).mono ?_;rintro e w14 ⟨xm,xM,xw,xW,xe,xE,xo,xO,xn,xN,rfl,-,b14⟩;have C14:=Zh (C13.trans b14);have hfl:=Qv9 a7.s xm xM xw xW xe xE xo xO xn xN;rw[AE.2.1]at hfl;rw[AE.2.1];clear b14;go_wp2_with fail;refine(At.ask (At.bel Q9 C14) 2 4294967297 KK.2.1).mono ?_;rw[show(Uo a7 2 4294967297).length=1 from AE.2.2];rintro e w15 ⟨ao5,cap5,rfl,-,b15⟩;have C15:=Zh (C14.trans b15);clear b15;go_wp2;go_ret;exact⟨rfl,Q9.2.2.trans C15⟩
end Go.Proofs.YtkdpmdfcdgphlaaGreat

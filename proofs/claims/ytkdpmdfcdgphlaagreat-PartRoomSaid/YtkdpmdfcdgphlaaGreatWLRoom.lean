/- Part of this claim's proof. Conditions: as its theorems say. -/
import Derived.Test.YtkdpmdfcdgphlaaGreatWLPrep
set_option linter.all false
namespace Go.Po
open Go.Mem Go.Proofs.YtkdpmdfcdgphlaaGreat
def tj(j:Nat):Int:=8589934593+(j:Int)
def gE(j k:Nat):List (Int×Goes):=if k=0 then [] else [(tj j,⟨k,List.replicate k pq,0⟩)]
def gW(a b c d e:Nat):List (Int×Goes):=gE 0 a++(gE 1 b++(gE 2 c++(gE 3 d++gE 4 e)))
def gV(v:Nat->Nat):List (Int×Goes):=gW (v 0) (v 1) (v 2) (v 3) (v 4)
def upd(v:Nat->Nat)(j x:Nat):Nat->Nat:=λi=>if i=j then x else v i
def sumV(v:Nat->Nat):Nat:=v 0+v 1+v 2+v 3+v 4
def xG(k:Nat):Goes:=⟨k,List.replicate k pq,0⟩
theorem five{P:Nat->Prop}(a:P 0)(b:P 1)(c:P 2)(d:P 3)(e:P 4):∀j,j<5->P j
 | 0,_=>a
 | 1,_=>b
 | 2,_=>c
 | 3,_=>d
 | 4,_=>e
theorem get_gV(v:Nat->Nat):∀j,j<5->Qn (tj j) (gV v)=if v j=0 then none else some (xG (v j)):=by
 refine five ?_ ?_ ?_ ?_ ?_<;>(unfold gV;generalize v 0=a;generalize v 1=b;generalize v 2=c;generalize v 3=d;generalize v 4=e;rcases a with _|a<;>rcases b with _|b<;>rcases c with _|c<;>rcases d with _|d<;>rcases e with _|e<;>rfl)
theorem put_gV(v:Nat->Nat)(x:Nat):∀j,j<5->Qo (tj j) (xG (x+1)) (gV v)=gV (upd v j (x+1)):=by
 refine five ?_ ?_ ?_ ?_ ?_<;>(show Qo _ _ (gW (v 0) (v 1) (v 2) (v 3) (v 4))=gW _ _ _ _ _;simp only[upd];generalize v 0=a;generalize v 1=b;generalize v 2=c;generalize v 3=d;generalize v 4=e;rcases a with _|a<;>rcases b with _|b<;>rcases c with _|c<;>rcases d with _|d<;>rcases e with _|e<;>rfl)
theorem del_gV(v:Nat->Nat):∀j,j<5->Xn (tj j) (gV v)=gV (upd v j 0):=by
 refine five ?_ ?_ ?_ ?_ ?_<;>(show Xn _ (gW (v 0) (v 1) (v 2) (v 3) (v 4))=gW _ _ _ _ _;simp only[upd];generalize v 0=a;generalize v 1=b;generalize v 2=c;generalize v 3=d;generalize v 4=e;rcases a with _|a<;>rcases b with _|b<;>rcases c with _|c<;>rcases d with _|d<;>rcases e with _|e<;>rfl)
theorem gE_puts(j k:Nat):(gE j k).flatMap (λp=>p.2.puts)=List.replicate k pq:=by
 unfold gE;split
 ·rename_i h;subst h;rfl
 ·simp
theorem all_gV(v:Nat->Nat):Ni (gV v)=List.replicate (sumV v) pq:=by
 simp only[Ni,gV,gW,List.flatMap_append,gE_puts,List.replicate_append_replicate,sumV,Nat.add_assoc]
theorem n_gV(v:Nat->Nat){j:Nat}(h:j<5):nG (tj j) (gV v)=(v j:Nat):=by
 rw[nG,get_gV v j h];split
 ·rename_i h;rw[h];rfl
 ·rfl
theorem puts_gV(v:Nat->Nat){j:Nat}(h:j<5):Qcs (tj j) (gV v)=List.replicate (v j) pq:=by
 rw[Qcs,get_gV v j h];split
 ·rename_i h;rw[h];rfl
 ·rfl
theorem putG_gV(v:Nat->Nat){j:Nat}(h:j<5):Qu9 (tj j) pq (gV v)=gV (upd v j (v j+1)):=by
 rw[Qu9,n_gV v h,puts_gV v h,<-put_gV v (v j) j h,xG,List.replicate_succ'];rfl
def sPr(p k:Nat):St:=if p<5 then Rz (Z8 1) (tj p) (List.replicate k pq) else Z8 1
def rmB(v:Nat->Nat)(p:Nat):Br:=⟨[sPr p (v p)],sPr p (v p),gV (upd v p 0),[]⟩
theorem over_sP(k:Nat):∀p,p<6->∀j,j<5->Gu (sPr p k) (tj j)=(p==j):=by
 intro p a;rcases Nat.lt_or_ge p 5 with h|h
 ·clear a
  revert p;exact five (five rfl rfl rfl rfl rfl) (five rfl rfl rfl rfl rfl) (five rfl rfl rfl rfl rfl) (five rfl rfl rfl rfl rfl) (five rfl rfl rfl rfl rfl)
 ·obtain rfl:p=5:=by omega
  refine five ?_ ?_ ?_ ?_ ?_<;>rfl
theorem tid_tj:∀j,j<5->(Zw (tj j)&&Jg pq)=true/\(home (tj j)==1)=false/\i64 (tj j):=by
 refine five ?_ ?_ ?_ ?_ ?_<;>exact⟨by decide,by decide,by simp[i64,tj]⟩
theorem countQ_rep(m:Nat):Nf pq.q (List.replicate m pq.q)=m:=by
 simp[Nf]
theorem names_sP(v:Nat->Nat){p:Nat}(d:p<6):Vg (sPr p (v p)) (Ni (gV (upd v p 0)))=List.replicate (sumV v) pq.q:=by
 have h:∀p,p<5->sumV (upd v p 0)+v p=sumV v:=by refine five ?_ ?_ ?_ ?_ ?_<;>(simp[sumV,upd];try omega)
 rw[all_gV];rcases Nat.lt_or_ge p 5 with a|a
 ·rw[<-h p a]
  have b:(sPr p (v p)).ms=[]:=by rw[sPr,if_pos a];rfl
  have c:(sPr p (v p)).waits=[⟨tj p,List.replicate (v p) pq⟩]:=by rw[sPr,if_pos a];rfl
  rw[Vg,b,c];simp
 ·obtain rfl:p=5:=by omega
  have b:sumV (upd v 5 0)=sumV v:=rfl;rw[b,Vg,sPr,if_neg (by omega)];simp[Z8]
theorem pend_sP(v:Nat->Nat){p:Nat}(c:p<6):(((Ni (gV (upd v p 0))).length:Int)+1+Xz (sPr p (v p))<=sumV v+1)/\(sPr p (v p)).nextId=1/\(sPr p (v p)).ms.length=0:=by
 have h:∀p,p<5->sumV (upd v p 0)+v p=sumV v:=by refine five ?_ ?_ ?_ ?_ ?_<;>(simp[sumV,upd];try omega)
 rw[all_gV,List.length_replicate];rcases Nat.lt_or_ge p 5 with a|a
 ·have b:(sPr p (v p)).waits=[⟨tj p,List.replicate (v p) pq⟩]:=by rw[sPr,if_pos a];rfl
  have:=h p a;refine⟨?_,by rw[sPr,if_pos a];rfl,by rw[sPr,if_pos a];rfl⟩;simp[Xz,b];omega
 ·obtain rfl:p=5:=by omega
  have b:sumV (upd v 5 0)=sumV v:=rfl;refine⟨by rw[b];exact Int.le_refl _,rfl,rfl⟩
theorem dedup_nil:Wx ([]:List ByteArray)=[]:=rfl
theorem more_sP(v:Nat->Nat){p:Nat}(a:p<6)(g:sumV v<=12):Qft (sPr p (v p)) pq.q (gV (upd v p 0))=decide (sumV v<12):=by
 obtain⟨f,d,e⟩:=pend_sP v a;have b:decide (((Ni (gV (upd v p 0))).length:Int)+1+Xz (sPr p (v p))<=4294967296-1)=true:=decide_eq_true (by omega);have c:decide (((Ni (gV (upd v p 0))).length:Int)+1+Xz (sPr p (v p))<=72-((0:Nat):Int))=true:=decide_eq_true (by omega);rw[Qft,Qcr,names_sP v a,countQ_rep,d,e,b,c,Bool.and_true,Bool.and_true];split
 ·rfl
 ·rename_i h
  have h:sumV v=0:=by omega
  rw[h];rfl
theorem put_rmB(v:Nat->Nat){p j:Nat}(c:p<6)(b:j<5)(i:sumV v<=12):Ga (rmB v p).s (rmB v p).G (tj j) pq=if (p==j)=true then 9 else if (decide (10<=v j)||decide (12<=sumV v))=true then 5 else 0:=by
 obtain⟨a,k,l⟩:=tid_tj j b;rw[Bool.and_eq_true]at a;show Ga (sPr p (v p)) (gV (upd v p 0)) (tj j) pq=_;rw[Ga,a.1,a.2,if_neg (by decide),over_sP (v p) p c j b];split
 ·rfl
 ·rename_i h
  have g:¬j=p:=λe=>h (by simp[e])
  rw[n_gV _ b,more_sP v c i,show upd v p 0 j=v j from if_neg g];have d:decide ((v j:Int)>=10)=decide (10<=v j):=decide_eq_decide.2 (by omega);have f:(!decide (sumV v<12))=decide (12<=sumV v):=by rw[<-decide_not];exact decide_eq_decide.2 (by omega)
  rw[d,f]
theorem upd_comm(v:Nat->Nat){i j:Nat}(h:¬i=j)(x y:Nat):upd (upd v i x) j y=upd (upd v j y) i x:=by
 funext k;unfold upd;split<;>split<;>first|rfl|omega
theorem brPut_rmB(v:Nat->Nat){p j:Nat}(k:p<6)(h:j<5)(l:sumV v<=12):Qer (rmB v p) (tj j) pq=if (decide (sumV v<12)&&decide (v j<10)&&!(p==j))=true then rmB (upd v j (v j+1)) p else rmB v p:=by
 rw[Qer,put_rmB v k h l];by_cases a:p=j
 ·subst a;simp
 have g:(p==j)=false:=by simpa using a
 have i:¬j=p:=λe=>a e.symm
 by_cases d:v j<10<;>by_cases f:sumV v<12
 ·have b:¬10<=v j:=by omega
  have c:¬12<=sumV v:=by omega
  simp only[g,d,f,b,c,decide_true,decide_false,Bool.or_self,Bool.not_false,Bool.and_self,if_true,if_false,Bool.false_eq_true];show(⟨_,_,Qu9 (tj j) pq (gV (upd v p 0)),_⟩:Br)=_;rw[putG_gV _ h,show upd v p 0 j=v j from if_neg i,upd_comm v a];unfold rmB;rw[show upd v j (v j+1) p=v p from if_neg a]
 all_goals
  have b:decide (10<=v j)=!decide (v j<10):=by rw[<-decide_not];exact decide_eq_decide.2 (by omega)
  have c:decide (12<=sumV v)=!decide (sumV v<12):=by rw[<-decide_not];exact decide_eq_decide.2 (by omega)
  simp[g,d,f,b,c]
theorem can_new:∀k,k<11->∀j,j<5->Zf (Z8 1) ⟨4,tj j,0,false,[],List.replicate k pq⟩=0:=by decide +kernel
theorem prep_rmB(v:Nat->Nat){j:Nat}(a:j<5)(h:0<v j)(f:v j<=10):(Ku (rmB v 5).l (rmB v 5).s (rmB v 5).G (tj j) (v j:Nat)).1=(true,0)/\Gx (rmB v 5) (tj j) (v j:Nat)=rmB v j:=by
 obtain⟨b,d,g⟩:=tid_tj j a;rw[Bool.and_eq_true]at b;have e:Ku (rmB v 5).l (rmB v 5).s (rmB v 5).G (tj j) (v j:Nat)=((true,0),([sPr j (v j)],sPr j (v j),gV (upd v j 0))):=by
  show Ku [Z8 1] (Z8 1) (gV v) (tj j) (v j:Nat)=_;have c:Lr (tj j) (gV v)=⟨4,tj j,0,false,[],List.replicate (v j) pq⟩:=by rw[Lr,puts_gV v a]
  rw[Ku,if_neg (by simp[Z8,Qt]),b.1,if_neg (by rw[show(home (tj j)==(Z8 1).broker)=false from d];simp[Z8,Qt]),n_gV v a,if_neg (by simp;omega),c,can_new (v j) (by omega) j a,show((0:Int)==0)=true from rfl,if_pos rfl,del_gV v j a,sPr,if_pos a];rfl
 rw[Gx,e];exact⟨rfl,rfl⟩
end Go.Po

/- Part of this claim's proof. Conditions: as its theorems say. -/
import Derived.Test.YtkdpmdfcdgphlaaGreatM28
set_option linter.all false
set_option maxHeartbeats 4000000
set_option maxRecDepth 100000
namespace Go.Po
open Go.Mem Go.Proofs.YtkdpmdfcdgphlaaGreat
def Lr(t:Int)(G:List (Int×Goes)):Rec:=⟨4,t,0,false,[],Qcs t G⟩
def Ku(l:List St)(s:St)(G:List (Int×Goes))(t n:Int):(Bool×Int)×(List St×St×List (Int×Goes)):=
 if Qt (λx:Branch=>x.tid) t s.waits=true then ((true,0),(l,s,G))
 else if (Qt (λx:Fin=>x.tid) t s.ends||!Zw t||(home t==s.broker))=true then ((false,0),(l,s,G))
 else if (nG t G==0||nG t G !=n)=true then ((false,Pm s t),Co l s G t)
 else if (Zf s (Lr t G)==0)=true then ((true,0),([Qf s (Lr t G)],Qf s (Lr t G),Xn t G))
 else ((false,Zf s (Lr t G)),(l,s,G))
def Yq(t:Int)(yes:Bool):Rec:=⟨5,t,0,yes,[],[]⟩
def Bz(l:List St)(s:St)(G:List (Int×Goes))(t:Int)(yes:Bool):Int×(List St×St×List (Int×Goes)):=
 if Qt (λx:Branch=>x.tid) t s.waits=true then (0,(if !yes then [Qf s (Yq t yes)] else l++[Qf s (Yq t yes)],Qf s (Yq t yes),G))
 else if (yes||Qt (λx:Fin=>x.tid) t s.ends||!Zw t||(home t==s.broker))=true then (0,(l,s,G))
 else (Pm s t,Co l s G t)
theorem Qsh{s:St}(f:May s){t:Int}(h:Qt (λx:Branch=>x.tid) t s.waits=true)(a:Bool):Zf s (Yq t a)=0:=by
 obtain⟨b,d,rfl⟩:=Qsj.1 h;have e:=f.ws b d;simp only[Ha,Bool.and_eq_true,Bool.not_eq_true']at e;have l:=(Fj.1 f.tw).1 b d;have k:Qp (Yq b.tid a)=true:=by
  rw[Dn];refine⟨by simp[Yq],l,rfl,rfl,rfl,?_,rfl⟩;show(0:Int)<=Jw 5;decide
 have c:Dw s b.tid=false:=e.1;unfold Zf;rw[if_neg (by simp[k]),if_neg (by simp[Yq,c])];have j:J3 s (Yq b.tid a)=false:=by
  have:Jj s b.tid=true:=h;simp[J3,Yq,this]
 have c:Zy s (Yq b.tid a)=false:=rfl;have g:Kc s (Yq b.tid a)=false:=rfl;have i:Jf s (Yq b.tid a)=false:=rfl;rw[j,c,g,i];rfl
end Go.Po
namespace Go.Proofs.YtkdpmdfcdgphlaaGreat
open Tryz
open Go.RowKit Go.Mem Go.Po
section
variable {n n' : Nat} {A O Ok : Nat → Prop} {w w' : World} {pb kb db lb lm tb tm : Nat} {L : List (Int × Gq)} {l : List St} {s : St} {G : List (Int × Goes)}
theorem Qfu(h:Pq n A O w pb kb db l s G)(D:∀k,A k->k<w.heap.size)(ai:n<199)(t:Int)(m:i64 t)(c:Int):
 Calls prog 21 #[.pointer (some ⟨pb,0,none⟩),.int .i64 t,.int .i64 c] w λe w'=>e=.returned (.tuple #[.bool (Ku l s G t c).1.1,.int .i64 (Ku l s G t c).1.2])/\Zq A O w w' λA O w=>Pq (n+1) A O w pb kb db (Ku l s G t c).2.1 (Ku l s G t c).2.2.1 (Ku l s G t c).2.2.2:=by
 obtain⟨E,aw⟩:=Zh2 (h.more (Nat.le_succ n)) h;obtain⟨Ok,lb,lm,tb,tm,L,rfl,j,rfl⟩:=h;obtain⟨g,C⟩:=Zh2 j D;have c0:=j.c0;have aR:=Zd c0;obtain⟨aG,q⟩:=Zx (Qt (λx:Branch=>x.tid) t s.waits);obtain⟨I,v⟩:=Zx (Qt (λx:Fin=>x.tid) t s.ends);obtain⟨J,y⟩:=Zx (Zw t);obtain⟨K,i⟩:=Zx (home t==s.broker);obtain⟨an,o⟩:=Zx (nG t (Zv L));obtain⟨r,z⟩:=Zx (Lr t (Zv L));obtain⟨aQ,f⟩:=Zx (Ku l s (Zv L) t c);rw[<-f];rw[Ku,<-q,<-v,<-y,<-i,<-o,<-z]at f;obtain⟨a,aA,aB,aC,a9,ax⟩:=Zh6 f q v y o z;clear j D q v y o z f;go_enter func21,ntmps21;go_wp2_with fail;refine(Ve g.k).mono ?_;rintro e aI ⟨X,R,aa,U,V,Q,Z,T,Y,S,rfl,o,b2⟩;obtain⟨aP,f⟩:=Zx (aI.alloc (.cells #[.int .i64 s.broker,.int .i64 s.nextId,.int .i64 s.nextSeq,.int .i64 s.tx,.slice X s.ms.length R,.slice aa s.waits.length U,.slice V s.ends.length Q,.slice Z s.opens.length T,.slice Y s.noes.length S] 43));have j:=Zb f;have q:=Zn f;obtain⟨ay,ac,aq,ad⟩:=Zh4 f ((o.bel j).mono (B:=λ_=>False) λ_ _ h=>h.elim) (b2.trans j) q;clear o b2 j q f c0;obtain⟨e0,q,y,z,D,j,o,v,F⟩:=sAt ad.o;go_wp2_with fail;rw[<-ay.o];refine(Qb3 s X R aa U V Q Z T Y S t _ _ ac).mono ?_;rw[<-aA.o];rintro e ap ⟨rfl,f⟩;obtain⟨ab,ae,aD⟩:=Zh3 (aq.trans f) (f.heap ad.o) (ac.bel f);clear f e0 q y z D j o v F;rcases aG with _|_
 case true=>
  go_wp2;go_ret2;exact⟨by rw[a.o];rfl,by rw[a.o];exact E.self ab.o⟩
 obtain⟨e0,q,y,z,D,j,o,v,F⟩:=kSt ae.o;have ah:=Zh (λW (f:Bel ap W)=>Qan s X R aa U V Q Z T Y S t _ W (aD.bel f));rw[<-aB.o]at ah;have aj:=Zh (λW=>Wq t m W);rw[<-aC.o]at aj;have aF:=Zh (λW=>Bf t m W);go_upto_region 6 with (fail);go_cut[21] (λb P=>b=.bool (I||!J||K)/\Hid (Bel ap P))
 case first=>
  rcases I with _|_<;>rcases J with _|_<;>rcases K with _|_
  all_goals
   have M:=i.symm;clear i;refine Qs (by kernel_rfl) (by kernel_rfl) ?_;repeat(go_big_quiet_step(first|(go_at_call 66;exact Calls.up (ah.o _ (Up.bel _)))|(go_at_call 58;exact Calls.up_same (aj.o _))|(go_at_call 67;exact Calls.up_same (aF.o _))))
   refine Xg λf H=>?_
   have f:=Zh H;clear H;go_wp2;go_meet
   case rel=>exact⟨by rfl,f⟩
 case rest=>
  obtain⟨rfl,H⟩:=hcut;obtain⟨f,aE⟩:=Zh2 (ab.trans H.o) (H.heap ae.o);clear e0 q y z D j o v F H i;obtain⟨N,i⟩:=Zx (I||!J||K);rw[<-i];rw[<-i]at a;rcases N with _|_
  case true=>
   clear i;go_wp2;go_ret2;exact⟨by rw[a.o];rfl,by rw[a.o];exact E.self f.o⟩
  clear i;have c1:=(g.bel f).c1;obtain⟨H,q⟩:=Zx (an==0);obtain⟨M,y⟩:=Zx (an !=c);rw[<-q,<-y]at a;have j:=q.symm;have o:=y.symm;have F:=Zh (Ko t m wc lb lm tb tm L (g.bel f).lk);rw[Ul,<-a9.o]at F;clear q y;obtain⟨aL,q⟩:=Zx wc;rw[<-q];rw[<-q]at c1 f aE F;clear q;go_upto_region 8 with (fail);go_cut[37] (λb P=>b=.bool (H||M)/\Hid (aL=P))
  case first=>
   rcases H with _|_<;>rcases M with _|_
   all_goals
    go_wp2_with(first|(go_at_call 28;refine F.mono ?_;rintro e aJ ⟨rfl,rfl⟩));go_meet
    case rel=>exact⟨by rfl,Zh rfl⟩
  case rest=>
   obtain⟨rfl,q⟩:=hcut;have v:=q.o;subst v;obtain⟨N,i⟩:=Zx (H||M);rw[<-i];rw[<-i]at a;clear i j o q;rcases N with _|_
   case true=>
    go_wp2_with fail;refine(Nj (aw.bel f) (λk h=>Nat.lt_of_lt_of_le (C k h) f.size) ai t m).zR λw8 i=>?_
    have j:=Zh i;clear i;go_wp2;go_ret2;exact⟨by rw[a.o];rfl,by rw[a.o];exact Zq.from f.o j.o⟩
   go_upto_region 10 with (fail);refine Zp [12,13] 14 (by kernel_rfl) rfl (by kernel_rfl) (λ_ d _ _ _ h=>by cases d<;>exact h) ?_;intro aM i j;have q:=Zh (f.trans i);have o:=Up.cell (g.bel q).c0;have y:=Up.cell (g.bel q).c1;clear i j c1;refine Xt 4 [0,1,2,3,4,5,6,7,8,9] (by kernel_rfl) rfl ?_;simp only[Za,List.getElem?_cons_zero,List.getElem?_cons_succ];repeat(go_big_quiet_step(fail))
   refine wpQuiet_nil ?_;clear o y;refine Qq 3 10 (by kernel_rfl) rfl ?_;go_wp2_with fail;refine(D6 A t m aM lb lm tb tm L (g.bel q).lk).mono ?_;rintro e aJ ⟨ao,cap,rfl,j,i⟩;have z:=(Pk t L).symm;obtain⟨P,o,ar⟩:=Zh3 (j.rd λk h=>Nat.lt_of_lt_of_le (C.o k h) q.size) (q.trans i) i;clear j i;go_wp2_with fail;refine Zl ar ?_;refine J6 2 [11] (by kernel_rfl) rfl ?_;simp only[Za,List.getElem?_cons_zero,List.getElem?_cons_succ];repeat(go_big_quiet_step(fail))
   refine wpQuiet_nil ?_;have j:r=⟨4,t,0,false,[],Jd t L⟩:=by rw[ax.o,Lr,z]
   have y:∀p∈r.puts,p.q.size<=maxLen:=λp i=>by
    rw[j]at i;have:=(Qei (List.all_eq_true.1 (Qaf g.ok t) p i)).1;simp only[maxLen];omega
   obtain⟨i,av⟩:=Zh2 j y;clear z j y;obtain⟨aH,z⟩:=Zx (Zf s r==0);rw[<-z]at a;refine Qq 1 12 (by kernel_rfl) rfl ?_;rcases aH with _|_
   case false=>
    have y:Zf s r≠0:=by simpa using z.symm
    have j:=Qfb (g.bel o.o).k (by omega) r none 0 ao cap (by rw[i.o];exact m) (by rw[i.o];simp[i64]) (by rw[i.o];exact Rd.nil _ _ _ none 0 (Nat.zero_le _)) (by rw[i.o];exact P.o) av.o true y;obtain⟨W,af⟩:=Zx (Zf s r);rw[<-af]at j y a;rw[i.o]at j;have al:(W==0)=false:=by simpa using y
    have am:(W !=0)=true:=by simpa using y
    have D:=Zh j;clear j y z af;go_wp2_with fail;refine D.zR λaK y=>?_
    obtain⟨af,ak⟩:=Zh2 (o.trans y) y;clear y;go_wp2_with fail;refine Zl ak ?_;refine Qq 0 13 (by kernel_rfl) rfl ?_;go_wp2_with fail;refine Z6 ?_;refine X0 (by kernel_rfl) ?_;go_wp2;go_ret2;exact⟨by rw[a.o];rfl,by rw[a.o];exact E.self af.o⟩
   have y:Zf s r=0:=by simpa using z.symm
   have j:=Uj (g.bel o.o).k (λk h=>Nat.lt_of_lt_of_le (C.o k h) o.size) ai r none 0 ao cap (by rw[i.o];exact m) (by rw[i.o];simp[i64]) (by rw[i.o];exact Rd.nil _ _ _ none 0 (Nat.zero_le _)) (by rw[i.o];exact P.o) true y;obtain⟨s',W⟩:=Zx (Qf s r);rw[<-W]at j a;rw[i.o]at j;have D:=Zh j;clear j y z W;go_wp2_with fail;refine D.mono ?_;rintro e aK ⟨rfl,aO,W,ak,am⟩;obtain⟨aN,⟨z,j⟩,af,al⟩:=(g.bel o.o).write W ak am (Nat.le_succ n);obtain⟨y,az,a8,au⟩:=Zh4 j af al z;have c1:=j.c1;clear W ak am j af al z;go_wp2_with fail;refine Z6 ?_;refine Qq 0 13 (by kernel_rfl) rfl ?_;go_wp2_with fail;refine Z6 ?_;refine X0 (by kernel_rfl) ?_;go_wp2_with fail;refine(Wy m y.lk).mono ?_;rintro e ak ⟨rfl,z,j⟩;obtain⟨af,W⟩:=Zh2 z j;clear z j c1;go_wp2;go_ret2;refine⟨by rw[a.o];rfl,?_⟩;rw[a.o];refine Zq.from o (Zq.then az a8 (λh=>h.mono) ?_)
   have:=y.drop1 (t:=t) af.o W.o;rw[<-au.o]at this;exact this
theorem Qnj(h:Pq n A O w pb kb db l s G)(r:∀k,A k->k<w.heap.size)(aa:n<199)(t:Int)(j:i64 t)(a:Bool):
 Calls prog 22 #[.pointer (some ⟨pb,0,none⟩),.int .i64 t,.bool a] w λe w'=>e=.returned (.int .i64 (Bz l s G t a).1)/\Zq A O w w' λA O w=>Pq (n+1) A O w pb kb db (Bz l s G t a).2.1 (Bz l s G t a).2.2.1 (Bz l s G t a).2.2.2:=by
 obtain⟨ah,ai⟩:=Zh2 (h.more (Nat.le_succ n)) h;obtain⟨Ok,lb,lm,tb,tm,L,rfl,f,rfl⟩:=h;obtain⟨g,U⟩:=Zh2 f r;have c0:=f.c0;have a8:=Zd c0;obtain⟨au,m⟩:=Zx (Qt (λx:Branch=>x.tid) t s.waits);obtain⟨D,o⟩:=Zx (Qt (λx:Fin=>x.tid) t s.ends);obtain⟨E,p⟩:=Zx (Zw t);obtain⟨F,i⟩:=Zx (home t==s.broker);obtain⟨s',q⟩:=Zx (Qf s (Yq t a));obtain⟨az,d⟩:=Zx (Bz l s (Zv L) t a);rw[<-d];rw[Bz,<-m,<-o,<-p,<-i,<-q]at d;obtain⟨c,V,an,ao,aj⟩:=Zh5 d m o p q;clear f r m o p d q;go_enter func22,ntmps22;go_wp2_with fail;refine(Ve g.k).mono ?_;rintro e av ⟨Q,J,T,N,P,I,S,M,R,K,rfl,m,b2⟩;obtain⟨ay,d⟩:=Zx (av.alloc (.cells #[.int .i64 s.broker,.int .i64 s.nextId,.int .i64 s.nextSeq,.int .i64 s.tx,.slice Q s.ms.length J,.slice T s.waits.length N,.slice P s.ends.length I,.slice S s.opens.length M,.slice R s.noes.length K] 43));have f:=Zb d;have o:=Zn d;obtain⟨ak,X,af,Y⟩:=Zh4 d ((m.bel f).mono (B:=λ_=>False) λ_ _ h=>h.elim) (b2.trans f) o;clear m b2 f o d c0;obtain⟨e0,m,o,p,q,r,v,z,C⟩:=sAt Y.o;go_wp2_with fail;rw[<-ak.o];refine(Qb3 s Q J T N P I S M R K t _ _ X).mono ?_;rw[<-V.o];rintro e H ⟨rfl,f⟩;obtain⟨d,ar,ap⟩:=Zh3 (af.trans f) (f.heap Y.o) (X.bel f);clear f e0 m o p q r v z C;rcases au with _|_
 case true=>
  have c0:=(g.bel d).c0;have al:=Zh (Uj (g.bel d.o).k (λk h=>Nat.lt_of_lt_of_le (U.o k h) d.size) aa (Yq t a) none 0 none 0 j (show i64 0 by simp[i64]) (Rd.nil _ _ _ none 0 (Nat.zero_le _)) (Rd.nil _ _ _ none 0 (Nat.zero_le _)) (!a) (Qsh g.k.good.may V.symm a));go_wp2_with fail;refine al.mono ?_;rintro e aw ⟨rfl,ax,Z,ab,ad⟩;obtain⟨am,⟨W,f⟩,ac,ae⟩:=(g.bel d.o).write Z ab ad (Nat.le_succ n);have aq:=Zh (show Zq A (pdO Ok pb lb lm tb tm L) H aw λA O w=>Pq (n+1) A O w pb kb db (if (!a)=true then [Qf s (Yq t a)] else l++[Qf s (Yq t a)]) (Qf s (Yq t a)) (Zv L) from⟨am,⟨_,_,_,_,_,_,W,f,rfl⟩,ac,ae⟩);clear Z ab ad W f ac ae c0;go_wp2;go_ret;refine⟨by rw[c.o];rfl,?_⟩;rw[c.o,aj.o];exact Zq.from d aq
 obtain⟨e0,m,o,p,q,r,v,z,C⟩:=kSt ar.o;have Z:=Zh (λW (f:Bel H W)=>Qan s Q J T N P I S M R K t _ W (ap.bel f));rw[<-an.o]at Z;have ab:=Zh (λW=>Wq t j W);rw[<-ao.o]at ab;have ac:=Zh (λW=>Bf t j W);go_upto_region 6 with (fail);go_cut[2,29] (λy b f=>y=.bool a/\b=.bool (a||D||!E||F)/\Hid (Bel H f))
 case first=>
  rcases a with _|_<;>rcases D with _|_<;>rcases E with _|_<;>rcases F with _|_
  all_goals
   have ad:=i.symm;clear i;refine Qs (by kernel_rfl) (by kernel_rfl) ?_;repeat(go_big_quiet_step(first|(go_at_call 66;exact Calls.up (Z.o _ (Up.bel _)))|(go_at_call 58;exact Calls.up_same (ab.o _))|(go_at_call 67;exact Calls.up_same (ac.o _))))
   refine Xg λf W=>?_
   have f:=Zh W;clear W;go_wp2;go_meet
   case rel=>exact⟨by rfl,by rfl,f⟩
 case rest=>
  obtain⟨rfl,rfl,W⟩:=hcut;have f:=Zh (d.trans W);clear e0 m o p q r v z C W i;obtain⟨o,i⟩:=Zx (a||D||!E||F);rw[<-i];rw[<-i]at c;clear i;rcases o with _|_
  case true=>
   go_wp2;go_ret;exact⟨by rw[c.o];rfl,by rw[c.o];exact ah.self f.o⟩
  go_wp2_with fail;refine(Nj (ai.bel f) (λk h=>Nat.lt_of_lt_of_le (U k h) f.size) aa t j).zR λw8 i=>?_
  have m:=Zh i;clear i;go_wp2;go_ret;exact⟨by rw[c.o];rfl,by rw[c.o];exact Zq.from f.o m.o⟩
end
end Go.Proofs.YtkdpmdfcdgphlaaGreat

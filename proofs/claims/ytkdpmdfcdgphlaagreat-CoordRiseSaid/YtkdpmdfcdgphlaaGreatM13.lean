/- Part of this claim's proof. Conditions: as its theorems say. -/
import Derived.Test.YtkdpmdfcdgphlaaGreatM12
set_option linter.all false
set_option maxHeartbeats 8000000
set_option maxRecDepth 100000
namespace Go.Po
def Vu(s:St)(p:Qv):Bool:=Qp ⟨6,p.tid,0,false,p.parts,[]⟩&&(home p.tid==s.broker)&&!(p.parts.contains s.broker)
def Ld(s:St)(m:Msg):Bool:=decide (0<m.seq)&&decide (m.seq<s.nextSeq)&&(home m.id==s.broker)&&decide (m.id % 4294967296<s.nextId)&&(m.who==0||(Zw m.who&&!Qt Fin.tid m.who s.ends))&&Jg ⟨m.q,m.b⟩&&decide (0<=m.cnt)&&decide (m.cnt<=1000)
def Ha(s:St)(b:Branch):Bool:=!Qt Fin.tid b.tid s.ends&&Qp ⟨4,b.tid,0,false,[],b.puts⟩
def Qbu(s:St)(p:Qv):Bool:=!Qt Fin.tid p.tid s.ends&&!Qt Branch.tid p.tid s.waits&&Vu s p
def Tu(s:St)(p:Qv):Bool:=(s.ends.any λe=>e.tid==p.tid&&!e.yes)&&Vu s p
structure May(s:St):Prop where
 broker:Qz s.broker=true
 nextId:1<=s.nextId/\s.nextId<=4294967296
 nextSeq:1<=s.nextSeq/\s.nextSeq<=1099511627776
 tx:0<=s.tx/\s.tx<=200
 tw:Kh Branch.tid s.waits=true
 te:Kh Fin.tid s.ends=true
 tp:Kh Qv.tid s.opens=true
 tn:Kh Qv.tid s.noes=true
 few:s.ms.length<=72
 seqs:Jv Msg.seq s.ms
 ids:(s.ms.map Msg.id).Nodup
 ms:∀m∈s.ms,Ld s m=true
 ws:∀b∈s.waits,Ha s b=true
 os:∀p∈s.opens,Qbu s p=true
 ns:∀p∈s.noes,Tu s p=true
theorem D7{α:Type}{f:α->Int}{l:List α}(h:Kh f l=true):ups f Zw none l=true:=by
 simp only[Kh,Bool.and_eq_true]at h;exact h.1
theorem Qk{α:Type}{f:α->Int}{l:List α}(h:Kh f l=true):l.length<=2000:=by
 simp only[Kh,Bool.and_eq_true,decide_eq_true_eq]at h;exact h.2
theorem Ze{α:Type}{f:α->Int}{l:List α}(h:Kh f l=true):Jv f l:=Qb4 (D7 h)
end Go.Po
namespace Go.Proofs.YtkdpmdfcdgphlaaGreat
open Tryz
open Go.RowKit Go.Mem Go.Po
theorem Gj(n a b:Int)(w:World):Calls prog 274 #[.int .i64 n,.int .i64 a,.int .i64 b] w λe w'=>e=.returned (.bool (decide (a<=n)&&decide (n<=b)))/\w=w':=by
 by_cases c:a<=n
 ·have d:decide (a<=n)=true:=by simp[c]
  have f:=c;rw[d];clear d c;go_enter func274,ntmps274;go_wp2;go_ret;exact⟨rfl,rfl⟩
 ·have d:decide (a<=n)=false:=by simp[c]
  have f:=eq_false c;rw[d];clear d c;go_enter func274,ntmps274;go_wp2;go_ret;exact⟨rfl,rfl⟩
theorem Qr6(A:Nat->Prop)(w:World)(ao:Option Addr)(cap:Nat)(l:List Int)(h:Rd Qh A w ao cap l)(x:Int):
 Calls prog 211 #[.slice ao l.length cap,.int .i64 x] w λe w'=>e=.returned (.int .i64 (Kz (λy=>y==x) l))/\w=w':=by
 have H:=Zh h;obtain⟨n,a⟩:=Zx l.length;have r:=h.small;rw[<-a]at r ⊢;have f:=Zh a;clear h a;go_enter func211,ntmps211;go_wp2;go_loop [5,8] (λ_ i=>∃k:Nat,k<=n/\i=.int .i64 k/\Hid (∀j y,j<k->l[j]?=some y->(y==x)=false)) (λ_ i=>n-(intOf i).toNat)
 case atStart=>exact⟨0,Nat.zero_le _,rfl,Zh λ_ _ h=>absurd h (Nat.not_lt_zero _)⟩
 case round=>
  obtain⟨k,v,rfl,c⟩:=hrel;by_cases B:k<n
  ·have b:k<l.length:=by have:=f.o;omega
   obtain⟨y,a⟩:∃x,l[k]?=some x:=⟨l[k],by simp[b]⟩;obtain⟨s,off,rfl,t,c0⟩:=Yf H.o a;have g:=Zh a;clear a b;by_cases q:x=y
   ·subst q
    have b:=Zh (Qgk (p:=λy=>y==x) g.o (by simp) c.o);go_wp2;go_ret;exact⟨by rw[b.o];rfl,rfl⟩
   ·have d:((y==x)=false):=by simp;omega
    have o:=Zh d;clear d;go_wp2;go_round
    case rel=>exact⟨k+1,by omega,by go_num,Zh (λj z m d=>by
     rcases Nat.lt_succ_iff_lt_or_eq.1 m with h|h
     ·exact c j z h d
     ·subst h;rw[g.o]at d;cases d;exact o.o)⟩
    case measure=>simp[intOf];omega
  ·have b:=Zh (show Kz (λy=>y==x) l=-1 from Nv λy a=>by
    obtain⟨j,m,rfl⟩:=List.getElem_of_mem a;exact c.o j _ (by have:=f.o;omega) (by simp))
   go_wp2;go_ret;exact⟨by rw[b.o];rfl,rfl⟩
theorem Qol{α:Type}(p:α->Bool)(l:List α):(Kz p l>=0)=(l.any p=true):=by
 rcases h:l.any p with _|_
 ·rw[Ri h];simp
 ·obtain⟨i,a⟩:=Qju h
  rw[a];simp
theorem D8(A:Nat->Prop)(w:World)(ao:Option Addr)(cap:Nat)(l:List Int)(h:Rd Qh A w ao cap l)(x:Int):
 Calls prog 128 #[.slice ao l.length cap,.int .i64 x] w λe w'=>e=.returned (.bool (l.contains x))/\w=w':=by
 have c:l.contains x=l.any λy=>y==x:=by
  rw[List.contains_eq_any_beq];congr 1;funext y;rw[Bool.eq_iff_iff,beq_iff_eq,beq_iff_eq];exact eq_comm
 have H:=Zh (Qr6 A w ao cap l h x);have a:=Qol (λy=>y==x) l;rw[c];clear h c;generalize Kz (λy=>y==x) l=i at H a;generalize (l.any λy=>y==x)=b at a ⊢;generalize l.length=n at H ⊢;rcases b with _|_
 ·have c:(i>=0)=False:=by rw[a];simp
  clear a;go_enter func128,ntmps128;go_wp2_with fail;refine H.zS ?_;go_wp2;go_ret;exact⟨rfl,rfl⟩
 ·have c:i>=0:=by rw[a]
  clear a;go_enter func128,ntmps128;go_wp2_with fail;refine H.zS ?_;go_wp2;go_ret;exact⟨rfl,rfl⟩
theorem Js{n:Int}(h:Qz n=true):1<=n/\n<=8:=by
 simp only[Qz,Bool.and_eq_true,decide_eq_true_eq]at h;omega
theorem Dj{r:Rec}(h:Qp r=true):Zw r.tid=true:=by
 simp only[Qp,Bool.and_eq_true]at h;exact h.1.2
theorem Qnd(s:St)(r:Option Addr)(m:Nat)(x:Option Addr)(o:Nat)(q:Option Addr)(l:Nat)(v:Option Addr)(n:Nat)(t:Option Addr)(sN:Nat)(p:Qv)(a:Option Addr)(pc:Nat)(A:Nat->Prop)(w:World)(c:Rd Qh A w a pc p.parts)(ok:Vu s p=true):
 Calls prog 337 #[.agg #[.int .i64 s.broker,.int .i64 s.nextId,.int .i64 s.nextSeq,.int .i64 s.tx,.slice r s.ms.length m,.slice x s.waits.length o,.slice q s.ends.length l,.slice v s.opens.length n,.slice t s.noes.length sN],.agg #[.int .i64 p.tid,.slice a p.parts.length pc]] w λe w'=>e=.returned (.bool true)/\Bel w w':=by
 simp only[Vu,Bool.and_eq_true,Bool.not_eq_true']at ok;obtain⟨⟨b,f⟩,i⟩:=ok;obtain⟨g,C⟩:=Zh2 c b;have d:=Jk (Dj b);have y:=Zh i;have G:(home p.tid==s.broker)=true:=f;have h:=Zh d;clear c b f i d;go_enter func337,ntmps337;go_wp2_with fail;have d:=J9 ⟨6,p.tid,0,false,p.parts,[]⟩ a pc none 0 h.o (by show i64 0;unfold i64;decide) (by simp) A _ (g.bel (((Bel.refl w).alloc (.cells #[.int .i64 s.broker,.int .i64 s.nextId,.int .i64 s.nextSeq,.int .i64 s.tx,.slice r s.ms.length m,.slice x s.waits.length o,.slice q s.ends.length l,.slice v s.opens.length n,.slice t s.noes.length sN] 43)).alloc (.cells #[.int .i64 p.tid,.slice a p.parts.length pc] 134))) (Rd.nil _ _ _ none 0 (by simp[maxLen]));rw[C.o]at d;refine d.zR λc b=>?_
 have c0:c.cell? ⟨w.heap.size,0,none⟩=some (.int .i64 s.broker):=b.cell (by go_simp);have i:c.cell? ⟨w.heap.size+1,0,none⟩=some (.int .i64 p.tid):=b.cell (by go_simp);have j:c.cell? ⟨w.heap.size+1,1,none⟩=some (.slice a p.parts.length pc):=b.cell (by go_simp);have f:=Zh ((((Bel.refl w).alloc _).alloc _).trans b);have B:=Zh (g.bel f);have D:=Up.cell c0;have E:=Up.cell i;have F:=Up.cell j;have k:∀W,Bel c W->Calls prog 128 #[.slice a p.parts.length pc,.int .i64 s.broker] W λe w'=>e=.returned (.bool false)/\W=w':=λW c=>by
  have:=D8 A W a pc p.parts (B.bel c) s.broker;rwa [y.o]at this
 have z:=Zh k;clear d b k c0 i j;go_wp2_with fail;refine Qs (by kernel_rfl) (by kernel_rfl) ?_;repeat(go_big_quiet_step(first|(go_at_call 67;exact Calls.up_same (Bf p.tid h.o _))|(go_at_call 128;exact Calls.up_same (z.o _ (Up.bel _)))))
 refine Xg λb b=>?_
 have c:=Zh (f.trans b);clear b D E F;go_wp2;go_ret;exact⟨rfl,c⟩
theorem Yo:Maps.Keyed prog 2:=Maps.int_keyed underlying2
theorem Cu{x:Int}(h:i64 x):keyOf prog 2 (.int .i64 x)=some (.int .i64 x):=Maps.keyOf_int_mk underlying2 (by
 have a:IntKind.i64.min=-9223372036854775808:=by decide
 have b:IntKind.i64.max=9223372036854775807:=by decide
 unfold i64 at h;simp only[Lit.wf,a,b,Bool.and_eq_true,decide_eq_true_eq];exact h)
theorem Qr7{t:Int}(h:Zw t=true):0<=t:=by
 simp only[Zw,decide_eq_true_eq]at h;unfold home at h;split at h<;>omega
theorem Qu2{α:Type}(k j:Int)(l:List (Int×α)):Qn j (Xn k l)=if j=k then none else Qn j l:=by
 induction l with
 | nil=>simp[Qn,Xn]
 | cons y r ih=>
  simp only[Qn,Xn]at ih ⊢;by_cases a:y.1=k
  ·rw[List.filter_cons,if_neg (by simp[a]),ih,List.find?_cons]
   split
   ·rfl
   ·rename_i h;rw[show decide (y.1=j)=false by simp;omega]
  ·rw[List.filter_cons,if_pos (by simp[a]),List.find?_cons,List.find?_cons]
   by_cases b:y.1=j
   ·simp[b];intro h;omega
   ·simp only[b,decide_false];exact ih
theorem Qu3{α:Type}(k j:Int)(v:α)(l:List (Int×α))(h:∀y∈l,y.1≠k):Qn j (Kg k v l)=if j=k then some v else Qn j l:=by
 induction l with
 | nil=>simp only[Kg,Qn,List.find?_cons,List.find?_nil];by_cases h:k=j<;>simp[h];intro b;omega
 | cons y r ih=>
  have ih:=ih λz a=>h z (by simp[a])
  have d:=h y (by simp);simp only[Kg];split
  ·simp only[Qn,List.find?_cons]
   by_cases a:k=j
   ·simp[a]
   ·have c:¬j=k:=λe=>a e.symm
    simp[a,c]
  ·simp only[Qn,List.find?_cons]at ih ⊢
   by_cases b:y.1=j
   ·simp[b];intro h;omega
   ·simp only[b,decide_false];exact ih
theorem Na{α:Type}(k j:Int)(v:α)(l:List (Int×α)):Qn j (Qo k v l)=if j=k then some v else Qn j l:=by
 rw[Qo,Qu3 k j v _ (λy a=>by simpa using (List.mem_filter.1 a).2),Qu2];split<;>rfl
theorem putI_len{α:Type}(k:Int)(v:α)(l:List (Int×α)):(Qo k v l).length<=l.length+1:=by
 have h:∀l:List (Int×α),(Kg k v l).length=l.length+1:=by
  intro l;induction l with
  | nil=>rfl
  | cons y r ih=>simp only[Kg];split<;>simp[ih]
 have:=List.length_filter_le (λp:Int×α=>decide (p.1≠k)) l;rw[Qo,h];unfold Xn;omega
def Pi(l:List Msg):List (Int×Bool):=l.foldl (λa m=>Qo m.id true a) []
theorem Qp7(l:List Msg)(m:Msg):Pi (l++[m])=Qo m.id true (Pi l):=by simp[Pi]
theorem Qr8(l:List Msg):(Pi l).length<=l.length:=by
 have h:∀(l:List Msg) (a:List (Int×Bool)),(l.foldl (λa m=>Qo m.id true a) a).length<=a.length+l.length:=by
  intro l;induction l with
  | nil=>intro a;simp
  | cons y r ih=>
   intro a;have b:=ih (Qo y.id true a);have c:=putI_len y.id true a;simp only[List.foldl_cons,List.length_cons];omega
 have:=h l [];simpa[Pi] using this
theorem Qu4{l:List Msg}{j:Int}(h:∀m∈l,m.id≠j):Qn j (Pi l)=none:=by
 have d:∀(l:List Msg) (a:List (Int×Bool)),(∀m∈l,m.id≠j)->Qn j a=none->Qn j (l.foldl (λa m=>Qo m.id true a) a)=none:=by
  intro l;induction l with
  | nil=>intro a _ h;simpa using h
  | cons y r ih=>
   intro a b c;rw[List.foldl_cons];refine ih _ (λm f=>b m (by simp[f])) ?_;rw[Na,if_neg (λe=>b y (by simp) e.symm)];exact c
 exact d l [] h rfl
theorem Qr9{l:List Msg}(h:(l.map Msg.id).Nodup){k:Nat}{x:Msg}(f:l[k]?=some x):∀m∈l.take k,m.id≠x.id:=by
 intro m d e;obtain⟨j,a,rfl⟩:=List.getElem_of_mem d;obtain⟨c,rfl⟩:=List.getElem?_eq_some_iff.1 f;have b:j<k:=by rw[List.length_take]at a;omega
 have:=(List.pairwise_iff_getElem.1 h) j k (by simp;omega) (by simpa using c) b;simp at this e;exact this e
theorem Qsa(s:St)(K:Option Addr)(H:Nat)(N:Option Addr)(J:Nat)(B:Option Addr)(z:Nat)(M:Option Addr)(I:Nat)(L:Option Addr)(sN:Nat)(A:Nat->Prop)(w:World)(h:StR A w s K H N J B z M I L sN)(ok:May s):
 Calls prog 282 #[.agg #[.int .i64 s.broker,.int .i64 s.nextId,.int .i64 s.nextSeq,.int .i64 s.tx,.slice K s.ms.length H,.slice N s.waits.length J,.slice B s.ends.length z,.slice M s.opens.length I,.slice L s.noes.length sN]] w λe w'=>e=.returned (.bool true)/\Bel w w':=by
 obtain⟨P,c⟩:=Zh2 h ok;obtain⟨n,a⟩:=Zx s.ms.length;have aM:n<=72:=by rw[a];exact ok.few
 have aj:=Zh a;rw[<-a];obtain⟨ne,d⟩:=Zx s.ends.length;have ak:=Zh d;rw[<-d];have aL:∀w,(Instr.makeMap 370 none).run prog w=.ok (.map (some w.heap.size)) (w.alloc (.map #[] 0)):=λw=>rfl
 clear h ok a d;go_enter func282,ntmps282;go_wp2;obtain⟨r,a⟩:=Zx (w.alloc (.cells (#[.int .i64 s.broker,.int .i64 s.nextId,.int .i64 s.nextSeq,.int .i64 s.tx,.slice K n H,.slice N s.waits.length J,.slice B ne z,.slice M s.opens.length I,.slice L s.noes.length sN]) 43));have l:=Zn a;have f:r.heap.size=w.heap.size+1:=by rw[a];simp
 have d:=Mp.made r prog 2;have C:=Zh (Zb a);rw[f]at d;obtain⟨Q,ai,am⟩:=Zh3 l d f;rw[<-a];clear l d f a;go_loopw[4,6,7,8,9,10,15] (λq _ _ _ _ _ i wr=>∃k:Nat,k<=n/\i=.int .i64 k/\(∃t:Int,q=.int .i64 t/\Hid (∀x,s.ms[k]?=some x->t<x.seq))/\Hid (Mp prog 2 wr (w.heap.size+1) (iL (λb=>.bool b) (Pi (s.ms.take k))))/\Hid (Bel r wr)) (λ_ _ _ _ _ _ i _=>n-(intOf i).toNat)
 case atStart=>
  refine⟨0,Nat.zero_le _,rfl,⟨0,rfl,Zh λx a=>?_⟩,ai,Zh ((Bel.refl r).alloc _)⟩;have:=c.ms x (List.mem_of_getElem? a);simp only[Ld,Bool.and_eq_true,decide_eq_true_eq]at this;omega
 case round=>
  obtain⟨k,aJ,rfl,⟨t,rfl,aA⟩,ad,f⟩:=hrel;by_cases aK:k<n
  ·have l:k<s.ms.length:=by have:=aj.o;omega
   obtain⟨x,a⟩:∃x,s.ms[k]?=some x:=⟨s.ms[k],by simp[l]⟩;obtain⟨aH,off,rfl,aI,c0,c1,c2,c3,au,av⟩:=Yl (P.ms.bel (C.trans f.o)) a;have p:=Zh a;have ae:=c.ms x (List.mem_of_getElem? a);simp only[Ld,Bool.and_eq_true,Bool.or_eq_true,decide_eq_true_eq]at ae;obtain⟨⟨⟨⟨⟨⟨⟨R,D⟩,E⟩,F⟩,G⟩,O⟩,m⟩,o⟩:=ae;have aN:=Qb (f.heap Q);obtain⟨U,V,b2,-,-,-,af,-,-⟩:=Ca9 (f.heap Q.o);have d:=Sa A _ B z s.ends (P.ends.bel ((C.trans f.o).alloc (.cells #[.int .i64 x.id,.string x.q,.string x.b,.int .i64 x.seq,.int .i64 x.cnt,.int .i64 x.who] 47))) (by have:=Qk c.te;omega) (Ze c.te) x.who;rw[<-ak.o]at d;obtain⟨ah,an,S,ao,ap,T,aq,ar⟩:=Zh8 d D E F G O m o;clear a l d R D E F G O m o;go_wp2_with fail;refine ah.zR λd a=>?_
   obtain⟨aB,G⟩:=Zx (Qt (λx:Fin=>x.tid) x.who s.ends);rw[<-G];have al:=Zh G;have l:=((Bel.refl wr).alloc (.cells #[.int .i64 x.id,.string x.q,.string x.b,.int .i64 x.seq,.int .i64 x.cnt,.int .i64 x.who] 47)).trans a;have e0:d.cell? ⟨wr.heap.size,0,none⟩=some (.int .i64 x.id):=a.cell (by go_simp);have Z:d.cell? ⟨wr.heap.size,1,none⟩=some (.string x.q):=a.cell (by go_simp);have aa:d.cell? ⟨wr.heap.size,2,none⟩=some (.string x.b):=a.cell (by go_simp);have D:d.cell? ⟨wr.heap.size,3,none⟩=some (.int .i64 x.seq):=a.cell (by go_simp);have ab:d.cell? ⟨wr.heap.size,4,none⟩=some (.int .i64 x.cnt):=a.cell (by go_simp);have ac:d.cell? ⟨wr.heap.size,5,none⟩=some (.int .i64 x.who):=a.cell (by go_simp);have W:=l.cell U;have X:=l.cell V;have Y:=l.cell b2;have aC:=Up.cell e0;have aD:=Up.cell D;have aE:=Up.cell W;have aF:=Up.cell X;have aG:=Up.cell Y;have O:=Zh l;have E:Zw x.id=true:=by
    have F:=S.o;have:=Js c.broker;have:home x.id=s.broker:=by simpa using F
    simp only[Zw];simp;omega
   have F:=Jk E;have a8:=Qr7 E;have a9:∀g:Up d,(Instr.lookup 370 (.map (some (w.heap.size+1))) (.int .i64 x.id) false).run prog g.wd=.ok (.bool false) g.wd:=λg=>by
    have d:=((ad.bel O).bel g.bel).look Yo underlying370 (zeroValue4 g.wd) rfl (Cu F);rw[Vp,Qu4 (Qr9 c.ids p.o)]at d;exact d
   have ay:=S.o;have ax:=an.o;have az:=ao.o;have aw:x.seq>t:=aA.o x p.o;have R:=Zh F;clear a G l E F U V b2 af c0 c1 c2 c3 au av;go_wp2_with fail;refine Qs (by kernel_rfl) (by kernel_rfl) ?_;repeat(go_big_quiet_step(first|(go_at_call 67;exact Calls.up_same (Bf x.id R.o _))))
   refine Xg λl a=>?_
   have E:=a.cell e0;have F:=a.cell Z;have G:=a.cell aa;have U:=a.cell D;have V:=a.cell ab;have au:=a.cell ac;have af:=Zh (O.trans a);clear a aC aD aE aF aG e0 Z aa D ab ac W X Y a9 aw ax ay az a8;go_upto_region 8 with (fail);go_cut[10] from 61 to 72 (λa D=>a=.bool true/\Hid (Bel l D))
   case first=>
    by_cases a:x.who=0
    ·have D:(x.who==0)=true:=by simp[a]
     clear a;go_wp2;go_meet;exact⟨rfl,Zh (Bel.refl _)⟩
    ·have D:(x.who==0)=false:=by simp[a]
     have X:Zw x.who=true/\aB=false:=by
      rcases ap.o with h|h
      ·rw[D]at h;cases h
      ·simp only[Bool.and_eq_true,Bool.not_eq_true']at h
       exact⟨h.1,al.trans h.2⟩
     obtain⟨l,rfl⟩:=X;have W:=Zh l;clear a l;go_wp2_with fail;refine(Ux x.who W _).zS ?_;go_wp2;go_meet;exact⟨rfl,Zh (Bel.refl _)⟩
   case rest=>
    obtain⟨rfl,a⟩:=hcut;have W:=a.cell E;have ab:=a.cell F;have ac:=a.cell G;have X:=a.cell U;have Y:=a.cell V;have D:x.q.size<=maxLen:=by
     have:=T.o;simp only[Jg,Jl,Bool.and_eq_true,decide_eq_true_eq]at this;simp only[maxLen];omega
    have l:=Qgr ⟨x.q,x.b⟩ D wc;rw[T.o]at l;obtain⟨aa,Z⟩:=Zh2 l (af.trans a.o);have m:=aq.o;have o:=ar.o;clear E F G U V au a l D;go_wp2_with fail;refine aa.zR λD a=>?_
    have F:=a.cell W;have G:=a.cell X;have au:=a.cell Y;have l:=Gj x.cnt 0 1000 D;rw[show(decide (0<=x.cnt)&&decide (x.cnt<=1000))=true by simp[m,o]]at l;obtain⟨V,D⟩:=Zh2 l (Z.trans a);clear a W ab ac X Y l;go_wp2_with fail;refine V.zS ?_;have X:=Up.cell F;have Y:=Up.cell G;go_wp2_with fail;refine Cb 6 (by kernel_rfl) (by kernel_rfl) ?_;simp only[List.take_succ_cons,List.take_zero,List.drop_succ_cons,List.drop_zero];repeat(go_big_quiet_step(fail))
    refine Qg9 λa a=>?_
    obtain⟨av,ab,E,l⟩:=(ad.bel (D.trans a)).put Yo underlying370 (k:=.int .i64 x.id) (v:=.bool true) (by
     have:=Qr8 (s.ms.take k);rw[List.length_take]at this;simp only[iL,List.length_map,maxLen];omega) (Cu R.o) rfl
    obtain⟨U,W⟩:=Zh2 (f.trans (D.trans a) |>.of_kept l λj h=>by have:=am.o;omega) E;have ac:IntKind.i64.wrap ((k:Int)+1)=((k+1:Nat):Int):=by rw[IntKind.wrap_i64];omega
    clear a E l X Y F G au m o;go_wp2;go_roundw
    case rel=>
     refine⟨k+1,by omega,by go_num,⟨x.seq,rfl,Zh λy a=>c.seqs k (k+1) x y (by omega) p.o a⟩,Zh ?_,U⟩;have d:=W;rw[Wv,Di (λb=>Value.bool b) x.id true]at d;rw[List.take_succ,p.o];show Mp _ _ _ _ (iL _ (Pi (s.ms.take k++[x])));rw[Qp7];exact d
    case measure=>simp[intOf];omega
  ·obtain rfl:k=n:=by omega
   go_wp2;go_ret;exact⟨rfl,C.trans f⟩
theorem Qzd{s:St}{p:Qv}(h:Tu s p=true)(f:Jv (λx:Fin=>x.tid) s.ends):∃e:Fin,s.ends[Z5 (λx:Fin=>x.tid) p.tid s.ends]?=some e/\e.yes=false/\Qt (λx:Fin=>x.tid) p.tid s.ends=true:=by
 simp only[Tu,Bool.and_eq_true,List.any_eq_true,beq_iff_eq,Bool.not_eq_true']at h;obtain⟨⟨e,c,g,k⟩,_⟩:=h;obtain⟨j,m,rfl⟩:=List.getElem_of_mem c;have b:s.ends[j]?=some s.ends[j]:=by simp
 have l:Z5 (λx:Fin=>x.tid) p.tid s.ends=j:=Qgg (by omega) (λi x d a=>by have:=f i j x _ d a b;dsimp only at this;omega) (λi x d a=>by
  rcases Nat.lt_or_ge j i with h|h
  ·have:=f j i _ x h b a;dsimp only at this;omega
  ·obtain rfl:i=j:=by omega
   rw[b]at a;cases a;omega)
 exact⟨s.ends[j],by rw[l];exact b,k,by rw[Qt,List.any_eq_true];exact⟨_,c,by simpa using g⟩⟩
theorem Qk6(s:St)(aa:Option Addr)(Y:Nat)(T:Option Addr)(R:Nat)(S:Option Addr)(Q:Nat)(ac:Option Addr)(Z:Nat)(ab:Option Addr)(sN:Nat)(A:Nat->Prop)(w:World)(h:StR A w s aa Y T R S Q ac Z ab sN)(ok:May s):
 Calls prog 283 #[.agg #[.int .i64 s.broker,.int .i64 s.nextId,.int .i64 s.nextSeq,.int .i64 s.tx,.slice aa s.ms.length Y,.slice T s.waits.length R,.slice S s.ends.length Q,.slice ac s.opens.length Z,.slice ab s.noes.length sN]] w λe w'=>e=.returned (.bool true)/\Bel w w':=by
 obtain⟨U,V⟩:=Zh2 h ok;have f:=fun (W:World) (a:Bel w W) (t:Int)=>Sa A W S Q s.ends (h.ends.bel a) (by have:=Qk ok.te;omega) (Ze ok.te) t
 have m:=fun (W:World) (a:Bel w W) (t:Int)=>U9 A W T R s.waits (h.waits.bel a) (by have:=Qk ok.tw;omega) (Ze ok.tw) t
 have l:=fun (W:World) (p:Qv) (a9:Option Addr) (pc:Nat) (o:Rd Qh A W a9 pc p.parts) (g:Vu s p=true)=>Qnd s aa Y T R S Q ac Z ab sN p a9 pc A W o g
 obtain⟨J,b⟩:=Zx s.waits.length;obtain⟨ne,a⟩:=Zx s.ends.length;obtain⟨no,d⟩:=Zx s.opens.length;obtain⟨I,c⟩:=Zx s.noes.length;have aT:J<=2000:=by rw[b];exact Qk ok.tw
 have aS:no<=2000:=by rw[d];exact Qk ok.tp
 have aR:I<=2000:=by rw[c];exact Qk ok.tn
 have le:ne<=2000:=by rw[a];exact Qk ok.te
 rw[<-a]at f;rw[<-b]at m;rw[<-b,<-a,<-d,<-c]at l ⊢;obtain⟨aD,aA,aC,aB,ae,aE,aq⟩:=Zh7 b a d c f m l;clear h ok f m l b a d c;go_enter func283,ntmps283;go_wp2;obtain⟨ah,a⟩:=Zx (w.alloc (.cells (#[.int .i64 s.broker,.int .i64 s.nextId,.int .i64 s.nextSeq,.int .i64 s.tx,.slice aa s.ms.length Y,.slice T J R,.slice S ne Q,.slice ac no Z,.slice ab I sN]) 43));have b:=Zn a;have r:=Zh (Zb a);have ad:=Zh b;rw[<-a];clear b a;go_loopw[4,5,6,20] (λ_ _ _ i wr=>∃k:Nat,k<=J/\i=.int .i64 k/\Hid (Bel ah wr)) (λ_ _ _ i _=>J-(intOf i).toNat)
 case atStart=>exact⟨0,Nat.zero_le _,rfl,Zh (Bel.refl _)⟩
 case round=>
  obtain⟨k,aP,rfl,a⟩:=hrel;have m:=a.heap ad;have X:=Qb m;obtain⟨-,-,-,-,-,-,v,y,z⟩:=Ca9 m;clear m;by_cases D:k<J
  ·have b:k<s.waits.length:=by have:=aD.o;omega
   obtain⟨x,n⟩:∃x,s.waits[k]?=some x:=⟨s.waits[k],by simp[b]⟩;obtain⟨ar,off,h,l,rfl,ax,c0,c1,o⟩:=Kl (U.waits.bel (r.trans a.o)) n;have g:=V.ws x (List.mem_of_getElem? n);simp only[Ha,Bool.and_eq_true,Bool.not_eq_true']at g;obtain⟨N,O⟩:=g;have f:=ae _ ((r.trans a).alloc (.cells #[.int .i64 x.tid,.slice h x.puts.length l] 58)) x.tid;rw[show Qt (λx:Fin=>x.tid) x.tid s.ends=false from N]at f;obtain⟨K,L,M⟩:=Zh3 f o O;clear n b f N O o;go_wp2_with fail;refine K.zR λq c=>?_
   have e0:q.cell? ⟨wr.heap.size,0,none⟩=some (.int .i64 x.tid):=c.cell (by go_simp);have H:q.cell? ⟨wr.heap.size,1,none⟩=some (.slice h x.puts.length l):=c.cell (by go_simp);have b:=Zh (((Bel.refl wr).alloc _).trans c);have d:=J9 ⟨4,x.tid,0,false,[],x.puts⟩ none 0 h l (Jk (Dj M.o)) (by show i64 0;unfold i64;decide) (by
    have B:=M.o;simp only[Qp,Bool.and_eq_true,List.all_eq_true]at B;intro p C;have:=B.2.2 p C;simp only[Jg,Jl,Bool.and_eq_true,decide_eq_true_eq]at this;simp only[maxLen];omega) A q (Rd.nil _ _ _ none 0 (by simp[maxLen])) (L.bel b.o)
   rw[M.o]at d;have B:=Zh d;clear c d c0 c1 v y z;go_wp2_with fail;refine B.zR λau C=>?_
   have d:=Zh (a.trans (b.trans C));have a8:IntKind.i64.wrap ((k:Int)+1)=((k+1:Nat):Int):=by rw[IntKind.wrap_i64];omega
   clear C e0 H;go_wp2;go_roundw
   case rel=>exact⟨k+1,by omega,by go_num,d⟩
   case measure=>simp[intOf];omega
  ·obtain rfl:k=J:=by omega
   have aI:=a;clear D;go_wp2;go_loopw[8,9,10,11,12,46] (λ_ _ _ _ _ i wr=>∃j:Nat,j<=no/\i=.int .i64 j/\Hid (Bel ah wr)) (λ_ _ _ _ _ i _=>no-(intOf i).toNat)
   case atStart=>exact⟨0,Nat.zero_le _,rfl,a⟩
   case round=>
    clear v y z a X;obtain⟨j,aO,rfl,a⟩:=hrel;have m:=a.heap ad;have X:=Qb m;obtain⟨D,E,b2,F,G,B,v,y,z⟩:=Ca9 m;clear m;by_cases aF:j<no
    ·have ai:j<s.opens.length:=by have:=aC.o;omega
     obtain⟨x,n⟩:∃x,s.opens[j]?=some x:=⟨s.opens[j],by simp[ai]⟩;obtain⟨ar,off,h,l,rfl,ax,c0,c1,o⟩:=Vo (U.opens.bel (r.trans a.o)) n;have g:=V.os x (List.mem_of_getElem? n);simp only[Qbu,Bool.and_eq_true,Bool.not_eq_true']at g;obtain⟨⟨N,O⟩,P⟩:=g;have f:=ae _ ((r.trans a).alloc (.cells #[.int .i64 x.tid,.slice h x.parts.length l] 134)) x.tid;rw[show Qt (λx:Fin=>x.tid) x.tid s.ends=false from N]at f;obtain⟨K,L,M,af⟩:=Zh4 f o O P;clear n ai f N O P o;go_wp2_with fail;refine K.zR λq c=>?_
     have e0:q.cell? ⟨wr.heap.size,0,none⟩=some (.int .i64 x.tid):=c.cell (by go_simp);have H:q.cell? ⟨wr.heap.size,1,none⟩=some (.slice h x.parts.length l):=c.cell (by go_simp);have b:=Zh (((Bel.refl wr).alloc _).trans c);have N:=aE _ ((r.trans a).trans b) x.tid;rw[show Qt (λx:Branch=>x.tid) x.tid s.waits=false from M.o]at N;have av:=Zh N;have aw:=b.cell B;clear c N c0 c1;go_wp2_with fail;refine av.zR λau C=>?_
     have ay:=C.cell e0;have az:=C.cell H;have d:=Zh (b.trans C);have O:=d.cell D;have ai:=d.cell E;have aj:=d.cell b2;have ak:=d.cell F;have al:=d.cell G;have am:=d.cell B;have an:=d.cell v;have ao:=d.cell y;have ap:=d.cell z;clear C e0 H aw D E b2 F G B v y z;go_wp2_with fail;refine(aq au x h l (L.bel d) af).zR λaH C=>?_
     have N:=Zh (a.trans (d.trans C));have a8:IntKind.i64.wrap ((j:Int)+1)=((j+1:Nat):Int):=by rw[IntKind.wrap_i64];omega
     clear C ay az O ai aj ak al am an ao ap;go_wp2;go_roundw
     case rel=>exact⟨j+1,by omega,by go_num,N⟩
     case measure=>simp[intOf];omega
    ·obtain rfl:j=no:=by omega
     clear aF;go_wp2;go_loopw[14,15,16,80] (λ_ _ _ i wr=>∃j:Nat,j<=I/\i=.int .i64 j/\Hid (Bel ah wr)) (λ_ _ _ i _=>I-(intOf i).toNat)
     case atStart=>exact⟨0,Nat.zero_le _,rfl,a⟩
     case round=>
      clear D E b2 F G B v y z a X;obtain⟨i,aM,rfl,a⟩:=hrel;have m:=a.heap ad;have X:=Qb m;obtain⟨D,E,b2,F,G,B,v,y,z⟩:=Ca9 m;clear m;by_cases aN:i<I
      ·have ay:i<s.noes.length:=by have:=aB.o;omega
       obtain⟨x,n⟩:∃x,s.noes[i]?=some x:=⟨s.noes[i],by simp[ay]⟩;obtain⟨ar,off,h,l,rfl,ax,c0,c1,o⟩:=Vo (U.noes.bel (r.trans a.o)) n;have g:=V.ns x (List.mem_of_getElem? n);obtain⟨aJ,m,aw,av⟩:=Qzd g (Ze V.te);simp only[Tu,Bool.and_eq_true]at g;have P:=g.2;have f:=ae _ ((r.trans a).alloc (.cells #[.int .i64 x.tid,.slice h x.parts.length l] 134)) x.tid;rw[av]at f;obtain⟨ps,az⟩:=Zx (Z5 (λx:Fin=>x.tid) x.tid s.ends);rw[<-az]at f m;have aQ:ps<ne:=by have:=(List.getElem?_eq_some_iff.1 m).1;have:=aA.o;omega
       obtain⟨aK,aU,au,aL,aG,k1⟩:=Ba (U.ends.bel (r.trans a.o)) m;rw[aw]at k1;obtain⟨aF,K,L,af⟩:=Zh4 au f o P;clear n ay f g P o m aw av az au;go_wp2_with fail;refine K.zR λq c=>?_
       have e0:q.cell? ⟨wr.heap.size,0,none⟩=some (.int .i64 x.tid):=c.cell (by go_simp);have H:q.cell? ⟨wr.heap.size,1,none⟩=some (.slice h x.parts.length l):=c.cell (by go_simp);have b:=Zh (((Bel.refl wr).alloc _).trans c);have O:=b.cell D;have ai:=b.cell E;have aj:=b.cell b2;have ak:=b.cell F;have al:=b.cell G;have am:=b.cell B;have an:=b.cell v;have ao:=b.cell y;have ap:=b.cell z;have g:=b.cell k1;have m:(ps:Int)<(ne:Int):=by omega
       have f:=aF.o;subst f;clear c D E b2 F G B v y z aG k1 c0 c1;go_wp2_with fail;refine(aq q x h l (L.bel b) af).zR λaH C=>?_
       have N:=Zh (a.trans (b.trans C));have a8:IntKind.i64.wrap ((i:Int)+1)=((i+1:Nat):Int):=by rw[IntKind.wrap_i64];omega
       clear C e0 H O ai aj ak al am an ao ap g;go_wp2;go_roundw
       case rel=>exact⟨i+1,by omega,by go_num,N⟩
       case measure=>simp[intOf];omega
      ·obtain rfl:i=I:=by omega
       go_wp2;go_ret;exact⟨rfl,r.trans a⟩
theorem Qcq(s:St)(v:Option Addr)(t:Nat)(m:Option Addr)(i:Nat)(j:Option Addr)(f:Nat)(l:Option Addr)(g:Nat)(k:Option Addr)(sN:Nat)(A:Nat->Prop)(w:World)(h:StR A w s v t m i j f l g k sN)(ok:May s):
 Calls prog 187 #[.agg #[.int .i64 s.broker,.int .i64 s.nextId,.int .i64 s.nextSeq,.int .i64 s.tx,.slice v s.ms.length t,.slice m s.waits.length i,.slice j s.ends.length f,.slice l s.opens.length g,.slice k s.noes.length sN]] w λe w'=>e=.returned (.bool true)/\Bel w w':=by
 obtain⟨a,n⟩:=Zx (w.alloc (.cells #[.int .i64 s.broker,.int .i64 s.nextId,.int .i64 s.nextSeq,.int .i64 s.tx,.slice v s.ms.length t,.slice m s.waits.length i,.slice j s.ends.length f,.slice l s.opens.length g,.slice k s.noes.length sN] 43));have E:=Zn n;have c:=Zh (Zb n);have d:=Zh E;have o:=X7 s.broker a;rw[ok.broker]at o;have p:=Gj s.nextId 1 4294967296 a;rw[show(decide (1<=s.nextId)&&decide (s.nextId<=4294967296))=true by simp[ok.nextId]]at p;have q:=Gj s.nextSeq 1 1099511627776 a;rw[show(decide (1<=s.nextSeq)&&decide (s.nextSeq<=1099511627776))=true by simp[ok.nextSeq]]at q;have r:=Gj s.tx 0 200 a;rw[show(decide (0<=s.tx)&&decide (s.tx<=200))=true by simp[ok.tx]]at r;have y:=Qs7 A a m i s.waits (h.waits.bel c) ok.tw;have z:=λW (b:Bel a W)=>Qs8 A W j f s.ends (h.ends.bel (c.trans b)) ok.te
 have B:=λW (b:Bel a W)=>Qs9 A W l g s.opens (h.opens.bel (c.trans b)) ok.tp
 have C:=λW (b:Bel a W)=>Qta A W k sN s.noes (h.noes.bel (c.trans b)) ok.tn
 have D:=λW (b:Bel a W)=>Qsa s v t m i j f l g k sN A W (h.bel (c.trans b)) ok
 have x:=λW (b:Bel a W)=>Qk6 s v t m i j f l g k sN A W (h.bel (c.trans b)) ok
 have W:(s.ms.length:Int)<=72:=by have:=ok.few;omega
 obtain⟨G,I,J,K,L,M,N,O,P,H,Q⟩:=Qv3 o p q r y z B C D x n;clear h ok o p q r y z B C D x E n;go_enter func187,ntmps187;go_wp2_with fail;rw[<-Q.o];obtain⟨b,h,b2,n,-,o,-,-,-⟩:=Ca9 d.o;refine G.zS ?_;go_wp2_with fail;refine I.zS ?_;go_wp2_with fail;refine J.zS ?_;go_wp2_with fail;refine K.zS ?_;have S:=Qb6;have T:=Qb8;have U:=Qca;have V:=Qcc;go_wp2_with fail;refine L.zR λr q=>?_
 have p:=cell_of_block (q.heap d) 6 _ rfl;have E:=Zh q;clear b h b2 n o q;go_wp2_with fail;refine(M r E).zR λy r=>?_
 have x:=Zh (E.trans r);have q:=cell_of_block (x.heap d) 7 _ rfl;clear p r;go_wp2_with fail;refine(N y x).zR λz r=>?_
 have y:=Zh (x.trans r);have F:=cell_of_block (y.heap d) 8 _ rfl;clear q r;go_wp2_with fail;refine(O z y).zR λR B=>?_
 have z:=Zh (y.trans B);have r:=z.heap d;obtain⟨b,h,b2,n,C,o,p,q,D⟩:=Ca9 r;clear F B r;go_wp2_with fail;refine(P R z).zR λR F=>?_
 have B:=Zh (z.trans F);have r:=B.heap d;clear b h b2 n C o p q D;obtain⟨b,h,b2,n,C,o,p,q,D⟩:=Ca9 r;clear F r;go_wp2_with fail;refine(H R B).zR λr r=>?_
 have F:=Zh (B.trans r);clear b h b2 n C o p q D r;go_wp2;go_ret;exact⟨rfl,c.trans F⟩
end Go.Proofs.YtkdpmdfcdgphlaaGreat

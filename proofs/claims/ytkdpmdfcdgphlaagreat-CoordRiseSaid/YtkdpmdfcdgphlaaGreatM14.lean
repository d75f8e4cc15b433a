/- Part of this claim's proof. Conditions: as its theorems say. -/
import Derived.Test.YtkdpmdfcdgphlaaGreatM11
import Derived.Test.YtkdpmdfcdgphlaaGreatM13
set_option linter.all false
set_option maxHeartbeats 4000000
set_option maxRecDepth 100000
namespace Go.Po
def Sc(s:St)(id:Int):Bool:=s.ms.any λm=>m.id==id
def Xz(s:St):Int:=(s.waits.map λb=>(b.puts.length:Int)).sum
def U4(s:St)(n:Int):Bool:=decide (Xz s+n<=4294967296-s.nextId)&&decide (Xz s+n<=72-(s.ms.length:Int))&&decide (Xz s+n<=1099511627776-s.nextSeq)
def Jj(s:St)(t:Int):Bool:=Qt (λx:Branch=>x.tid) t s.waits
def Vs(s:St)(t:Int):Bool:=Qt (λx:Qv=>x.tid) t s.opens
def Dw(s:St)(t:Int):Bool:=Qt (λx:Fin=>x.tid) t s.ends
def ownB(s:St)(t:Int):Bool:=home t==s.broker
def Gd(s:St)(r:Rec):Bool:=Qt (λx:Qv=>x.tid) r.tid s.noes&&(match s.noes[Z5 (λx:Qv=>x.tid) r.tid s.noes]? with|some p=>p.parts.contains (r.parts.headD 0)|none=>false)
def J3(s:St)(r:Rec):Bool:=(r.kind==2&&!Sc s r.id)||(r.kind==5&&!Jj s r.tid)||(r.kind==9&&!Gd s r)
def Uy(s:St)(r:Rec):Bool:=!ownB s r.tid||Jj s r.tid||r.parts.contains s.broker
def Zy(s:St)(r:Rec):Bool:=(r.kind==1&&!(r.tid==mk s.broker (s.tx+1)))||(r.kind==6&&(Uy s r||Vs s r.tid))||(r.kind==7&&Uy s r)||(r.kind==8&&Uy s r)||(r.kind==4&&(Jj s r.tid||ownB s r.tid))||(r.kind==3&&(Jj s r.tid||Vs s r.tid))
def Sd(s:St)(id:Int):Int:=match s.ms.find? λm=>m.id==id with|some m=>m.who|none=>0
def Kc(s:St)(r:Rec):Bool:=r.kind==2&&((!(Sd s r.id==0)&&!(Sd s r.id==r.tid))||Jj s r.tid||Vs s r.tid)
def Jf(s:St)(r:Rec):Bool:=(r.kind==4||r.kind==7)&&!U4 s r.puts.length
def Zf(s:St)(r:Rec):Int:=if Qp r=false then 1 else if Dw s r.tid=true/\r.kind≠9 then 9 else if J3 s r=true then 6 else if Zy s r=true then 12 else if Kc s r=true then 8 else if Jf s r=true then 5 else 0
structure Few(s:St):Prop where
 tx:s.tx<200
 waits:s.waits.length<2000
 ends:s.ends.length<2000
 opens:s.opens.length<2000
 noes:s.noes.length<2000
theorem Uf{r:Rec}(h:Qp r=true):r.kind=1\/r.kind=2\/r.kind=3\/r.kind=4\/r.kind=5\/r.kind=6\/r.kind=7\/r.kind=8\/r.kind=9:=by
 simp only[Qp,Bool.and_eq_true,decide_eq_true_eq]at h;omega
theorem Qhe{r:Rec}(h:Qp r=true)(b:r.kind=9):∃q,r.parts=[q]:=by
 simp only[Qp,Bool.and_eq_true,decide_eq_true_eq,Xq,b,F3,Wp]at h;have a:=h.2.1.1.2;simp at a;have:r.parts.length=1:=by omega
 exact List.length_eq_one_iff.1 this
theorem Qat(l:List Branch)(k:Nat)(x:Branch)(a:l[k]?=some x):((l.take (k+1)).map λb=>(b.puts.length:Int)).sum=((l.take k).map λb=>(b.puts.length:Int)).sum+x.puts.length:=by
 rw[List.take_succ,a];simp
theorem Qn1(l:List Branch)(h:∀b∈l,b.puts.length<=10):0<=(l.map λb=>(b.puts.length:Int)).sum/\(l.map λb=>(b.puts.length:Int)).sum<=10*l.length:=by
 induction l with
 | nil=>simp
 | cons b l ih=>
  have d:=ih λc a=>h c (by simp[a])
  have a:=h b (by simp);simp only[List.map_cons,List.sum_cons,List.length_cons];omega
theorem Hz{s:St}{b:Branch}(h:Ha s b=true):b.puts.length<=10:=by
 simp only[Ha,Qp,Bool.and_eq_true,decide_eq_true_eq,Jw]at h;have:=h.2.2.1.2;simp at this;omega
end Go.Po
namespace Go.Proofs.YtkdpmdfcdgphlaaGreat
open Tryz
open Go.RowKit Go.Mem Go.Po
theorem Qet(x:Msg)(a:Int)(b:Nat)(W:World)(d:W.cell? ⟨b,0,none⟩=some (.int .i64 a)):Calls prog 332 (#[.agg #[.int .i64 x.id,.string x.q,.string x.b,.int .i64 x.seq,.int .i64 x.cnt,.int .i64 x.who]]++#[.pointer (some ⟨b,0,none⟩)]) W λe c=>e=.returned (.bool (x.id==a))/\Bel W c:=by
 have c:=Zd d;show Calls prog 332 #[.agg #[.int .i64 x.id,.string x.q,.string x.b,.int .i64 x.seq,.int .i64 x.cnt,.int .i64 x.who],.pointer (some ⟨b,0,none⟩)] W _;go_enter func332,ntmps332;go_wp2;go_ret;exact⟨rfl,(Bel.refl W).alloc _⟩
theorem Qgh:∀a w,(callFunc 332 a).run prog w=.ok (.enter 332 a) w:=enters_of func332 (by kernel_rfl) rfl
theorem Px(s:St)(c:Option Addr)(b:Nat)(q:Option Addr)(k:Nat)(l:Option Addr)(i:Nat)(p:Option Addr)(j:Nat)(o:Option Addr)(sN:Nat)(A:Nat->Prop)(w:World)(h:Rd Xy A w c b s.ms)(a:Int):
 Calls prog 270 #[.agg #[.int .i64 s.broker,.int .i64 s.nextId,.int .i64 s.nextSeq,.int .i64 s.tx,.slice c s.ms.length b,.slice q s.waits.length k,.slice l s.ends.length i,.slice p s.opens.length j,.slice o s.noes.length sN],.int .i64 a] w λe w'=>e=.returned (.int .i64 (Kz (λm=>m.id==a) s.ms))/\Bel w w':=by
 have H:=Zh h;have t:=Qgh;obtain⟨n,d⟩:=Zx s.ms.length;have r:=Zh d;rw[<-d];clear h d;go_enter func270,ntmps270;go_wp2_with fail;have f:=Zh (((Bel.refl w).alloc (.cells (#[.int .i64 s.broker,.int .i64 s.nextId,.int .i64 s.nextSeq,.int .i64 s.tx,.slice c n b,.slice q s.waits.length k,.slice l s.ends.length i,.slice p s.opens.length j,.slice o s.noes.length sN]) 43)).alloc (.cells #[.int .i64 a] 2));have d:=Qod (λm=>m.id==a) 332 #[.pointer (some ⟨w.heap.size+1,0,none⟩)] t A _ c b s.ms (H.bel f.o) (λx W _ g=>Qet x a _ W (g.cell (by go_simp)));rw[<-r.o]at d;refine d.zR λg g=>?_
 have h:=Zh (f.trans g);clear d g;go_wp2;go_ret;exact⟨rfl,h⟩
theorem Qtw(s:St)(B:Option Addr)(r:Nat)(E:Option Addr)(y:Nat)(z:Option Addr)(p:Nat)(D:Option Addr)(v:Nat)(C:Option Addr)(sN:Nat)(A:Nat->Prop)(w:World)(h:StR A w s B r E y z p D v C sN)(ok:May s)(m:Int)(U:0<=m/\m<=100000):
 Calls prog 273 #[.agg #[.int .i64 s.broker,.int .i64 s.nextId,.int .i64 s.nextSeq,.int .i64 s.tx,.slice B s.ms.length r,.slice E s.waits.length y,.slice z s.ends.length p,.slice D s.opens.length v,.slice C s.noes.length sN],.int .i64 m] w λe w'=>e=.returned (.bool (U4 s m))/\Bel w w':=by
 obtain⟨I,H⟩:=Zh2 h ok;have ab:=ok.nextId;have ac:=ok.nextSeq;obtain⟨q,d⟩:=Zx s.ms.length;have W:q<=72:=by rw[d];exact ok.few
 obtain⟨n,c⟩:=Zx s.waits.length;have V:n<=2000:=by rw[c];exact Qk ok.tw
 obtain⟨G,K⟩:=Zh2 c d;rw[<-c,<-d];clear h ok c d;go_enter func273,ntmps273;go_wp2;obtain⟨L,c⟩:=Zx (w.alloc (.cells (#[.int .i64 s.broker,.int .i64 s.nextId,.int .i64 s.nextSeq,.int .i64 s.tx,.slice B q r,.slice E n y,.slice z s.ends.length p,.slice D s.opens.length v,.slice C s.noes.length sN]) 43));have d:=Zn c;have F:=Zh (Zb c);have J:=Zh d;rw[<-c];clear d c;go_loopw[1,6,10] (λa _ i wr=>∃(k:Nat) (t:Int),k<=n/\i=.int .i64 k/\a=.int .i64 t/\Hid (t=((s.waits.take k).map λb=>(b.puts.length:Int)).sum+m)/\Hid (Bel L wr)) (λ_ _ i _=>n-(intOf i).toNat)
 case atStart=>exact⟨0,m,Nat.zero_le _,rfl,rfl,Zh (by simp),Zh (Bel.refl _)⟩
 case round=>
  obtain⟨k,t,T,rfl,rfl,o,h⟩:=hrel;have d:=h.heap J;obtain⟨-,N,b2,-,O,-,-,-,-⟩:=Ca9 d;have X:0<=t/\t<=200000:=by
   have c:=Qn1 (s.waits.take k) (λb d=>Hz (H.ws b (List.mem_of_mem_take d)));have g:(s.waits.take k).length<=2000:=by rw[List.length_take];omega
   have:=o.o;omega
  clear d;by_cases Q:k<n
  ·have j:k<s.waits.length:=by have:=G.o;omega
   obtain⟨x,f⟩:∃x,s.waits[k]?=some x:=⟨s.waits[k],by simp[j]⟩;have aa:=Hz (H.ws x (List.mem_of_getElem? f));obtain⟨R,off,M,P,rfl,S,c0,c1,-⟩:=Kl (I.waits.bel (F.trans h.o)) f;have l:=Zh (Qat s.waits k x f);have Y:IntKind.i64.wrap ((k:Int)+1)=((k+1:Nat):Int):=by rw[IntKind.wrap_i64];omega
   have Z:IntKind.i64.wrap (t+(x.puts.length:Int))=t+(x.puts.length:Int):=by rw[IntKind.wrap_i64];omega
   have d:=Zh (h.alloc (.cells #[.int .i64 x.tid,.slice M x.puts.length P] 58));clear f j N b2 O;go_wp2;go_roundw
   case rel=>exact⟨k+1,t+x.puts.length,by omega,by go_num,rfl,Zh (by rw[l.o,o.o];omega),d⟩
   case measure=>simp[intOf];omega
  ·obtain rfl:k=n:=by omega
   have l:t=Xz s+m:=by rw[o.o,List.take_of_length_le (by have:=G.o;omega)];rfl
   have N:IntKind.i64.wrap (4294967296-s.nextId)=4294967296-s.nextId:=by rw[IntKind.wrap_i64];omega
   have O:IntKind.i64.wrap (72-(q:Int))=72-(q:Int):=by rw[IntKind.wrap_i64];omega
   have P:IntKind.i64.wrap (1099511627776-s.nextSeq)=1099511627776-s.nextSeq:=by rw[IntKind.wrap_i64];omega
   have f:U4 s m=(decide (t<=4294967296-s.nextId)&&decide (t<=72-(q:Int))&&decide (t<=1099511627776-s.nextSeq)):=by rw[U4,<-l,K.o]
   obtain⟨j,d⟩:=Zh2 f (F.trans h.o);clear f l Q;by_cases c:t<=4294967296-s.nextId
   ·by_cases g:t<=72-(q:Int)
    ·have f:decide (t<=4294967296-s.nextId)=true:=decide_eq_true c
     have l:=decide_eq_true g;go_wp2;go_ret;rw[j.o,f,l];exact⟨rfl,d⟩
    ·have f:decide (t<=4294967296-s.nextId)=true:=decide_eq_true c
     have l:=decide_eq_false g;have M:=eq_false g;clear g;go_wp2;go_ret;rw[j.o,f,l];exact⟨rfl,d⟩
   ·have f:decide (t<=4294967296-s.nextId)=false:=decide_eq_false c
    have g:=eq_false c;clear c;go_wp2;go_ret;rw[j.o,f];exact⟨rfl,d⟩
theorem Sg{α:Type}{f:α->Int}{t:Int}{l:List α}(d:Jv f l)(h:Qt f t l=true):∃e:α,l[Z5 f t l]?=some e/\f e=t:=by
 rw[Qt,List.any_eq_true]at h;obtain⟨e,m,g⟩:=h;obtain⟨j,o,rfl⟩:=List.getElem_of_mem m;have b:l[j]?=some l[j]:=by simp
 have k:f l[j]=t:=by simpa using g
 have n:Z5 f t l=j:=Qgg (by omega) (λi x c a=>by have:=d i j x _ c a b;omega) (λi x c a=>by
  rcases Nat.lt_or_ge j i with h|h
  ·have:=d j i _ x h b a;omega
  ·obtain rfl:i=j:=by omega
   rw[b]at a;cases a;omega)
 exact⟨l[j],by rw[n];exact b,k⟩
theorem Qtx(s:St)(r:Rec)(F:Option Addr)(D:Nat)(y:Option Addr)(p:Nat)(E:Option Addr)(C:Nat)(v:Option Addr)(o:Nat)(t:Option Addr)(sN:Nat)(rp:Option Addr)(B:Nat)(L:Option Addr)(K:Nat)(A:Nat->Prop)(w:World)(h:StR A w s F D y p E C v o t sN)(ok:May s)(g:Rd Qh A w rp B r.parts)(b:Qp r=true):
 Calls prog 183 #[.agg #[.int .i64 s.broker,.int .i64 s.nextId,.int .i64 s.nextSeq,.int .i64 s.tx,.slice F s.ms.length D,.slice y s.waits.length p,.slice E s.ends.length C,.slice v s.opens.length o,.slice t s.noes.length sN],.agg #[.int .i64 r.kind,.int .i64 r.tid,.int .i64 r.id,.bool r.yes,.slice rp r.parts.length B,.slice L r.puts.length K]] w λe w'=>e=.returned (.int .i64 (if J3 s r=true then 6 else 0))/\Bel w w':=by
 obtain⟨T,aj,af,ah⟩:=Zh4 h ok g b;have M:=Jk (Dj b);obtain⟨j,a⟩:∃j,j=(w.alloc (.cells #[.int .i64 s.broker,.int .i64 s.nextId,.int .i64 s.nextSeq,.int .i64 s.tx,.slice F s.ms.length D,.slice y s.waits.length p,.slice E s.ends.length C,.slice v s.opens.length o,.slice t s.noes.length sN] 43)).alloc (.cells #[.int .i64 r.kind,.int .i64 r.tid,.int .i64 r.id,.bool r.yes,.slice rp r.parts.length B,.slice L r.puts.length K] 124):=⟨_,rfl⟩;have k:Hid (Bel w j):=Zh (by rw[a];exact((Bel.refl w).alloc _).alloc _);have z:j.heap[w.heap.size]?=some (.cells #[.int .i64 s.broker,.int .i64 s.nextId,.int .i64 s.nextSeq,.int .i64 s.tx,.slice F s.ms.length D,.slice y s.waits.length p,.slice E s.ends.length C,.slice v s.opens.length o,.slice t s.noes.length sN] 43 (0,0)):=by rw[a];exact((Bel.refl _).alloc _).heap (heap_alloc_new _ _)
 have l:j.heap[w.heap.size+1]?=some (.cells #[.int .i64 r.kind,.int .i64 r.tid,.int .i64 r.id,.bool r.yes,.slice rp r.parts.length B,.slice L r.puts.length K] 124 (0,0)):=by
  rw[a];have:=heap_alloc_new (w.alloc (.cells #[.int .i64 s.broker,.int .i64 s.nextId,.int .i64 s.nextSeq,.int .i64 s.tx,.slice F s.ms.length D,.slice y s.waits.length p,.slice E s.ends.length C,.slice v s.opens.length o,.slice t s.noes.length sN] 43)) (.cells #[.int .i64 r.kind,.int .i64 r.tid,.int .i64 r.id,.bool r.yes,.slice rp r.parts.length B,.slice L r.puts.length K] 124);simpa using this
 obtain⟨P,G,J⟩:=Zh3 z l a;have H:=fun (W:World) (n:Bel w W)=>U9 A W y p s.waits (h.waits.bel n) (by have:=Qk ok.tw;omega) (Ze ok.tw) r.tid
 have I:=fun (W:World) (n:Bel w W)=>Y4 A W v o s.opens (h.opens.bel n) (by have:=Qk ok.tp;omega) (Ze ok.tp) r.tid
 have f:=fun (W:World) (n:Bel w W)=>Y4 A W t sN s.noes (h.noes.bel n) (by have:=Qk ok.tn;omega) (Ze ok.tn) r.tid
 obtain⟨ai,ae⟩:=Zh2 H f;have an:=Uf b;obtain⟨aw,d⟩:∃c:Int,c=(if J3 s r=true then 6 else 0):=⟨_,rfl⟩;rw[<-d];have i:=Zh d;clear d h ok g b M a z l H I f;rcases an with a|a|a|a|a|a|a|a|a;all_goals
  first|(have ak:(r.kind==2)=false:=by rw[a];rfl)|(have ak:(r.kind==2)=true:=by rw[a];rfl)
  first|(have al:(r.kind==5)=false:=by rw[a];rfl)|(have al:(r.kind==5)=true:=by rw[a];rfl)
  first|(have am:(r.kind==9)=false:=by rw[a];rfl)|(have am:(r.kind==9)=true:=by rw[a];rfl)
  first|(have f:J3 s r=false:=by simp[J3,a])|(have f:J3 s r=!Sc s r.id:=by simp[J3,a])|(have f:J3 s r=!Jj s r.tid:=by simp[J3,a])|(have f:J3 s r=!Gd s r:=by simp[J3,a])
  first
   | (have d:=Zh f
      clear a f;have z:=cell_of_block G 0 _ rfl;go_enter func183,ntmps183;go_wp2;go_ret;rw[i.o,d.o,<-J.o];exact⟨rfl,k⟩)
   | (have H:=Qol (λm:Msg=>m.id==r.id) s.ms
      have b:=Px s F D y p E C v o t sN A j (T.ms.bel k) r.id;obtain⟨d,R⟩:=Zh2 f b;generalize g:Kz (λm:Msg=>m.id==r.id) s.ms=ix at H;have Q:=Zh g;clear a f b g;obtain⟨z,-,l,-,-,-⟩:=Ca6 G.o;obtain⟨s0,N,S,U,V,O,X,Y,I⟩:=Ca9 P.o;go_enter func183,ntmps183;go_wp2_with fail;rw[<-J.o];have b:=R.o;rw[Q.o]at b;refine b.zR λM h=>?_
      have g:=Zh (k.trans h);clear b h z l s0 N S U V O X Y I;rcases b:Sc s r.id with _|_
      ·have N:(ix>=0)=False:=by rw[H];simp only[Sc]at b;rw[b];simp
       have l:=Zh b;clear b H;go_wp2;go_ret;rw[i.o,d.o,l.o];exact⟨rfl,g⟩
      ·have N:ix>=0:=by rw[H];exact b
       have l:=Zh b;clear b H;go_wp2;go_ret;rw[i.o,d.o,l.o];exact⟨rfl,g⟩)
   | (have d:=Zh f
      clear a f;obtain⟨z,Q,-,-,-,-⟩:=Ca6 G.o;have O:=cell_of_block P 5 _ rfl;go_enter func183,ntmps183;go_wp2_with fail;rw[<-J.o];refine(ai j k).zR λM h=>?_
      have g:=Zh (k.trans h);clear h z Q O;rcases b:Jj s r.tid with _|_
      ·have N:Qt (λx:Branch=>x.tid) r.tid s.waits=false:=b
       have l:=Zh b;clear b;go_wp2;go_ret;rw[i.o,d.o,l.o];exact⟨rfl,g⟩
      ·have N:Qt (λx:Branch=>x.tid) r.tid s.waits=true:=b
       have l:=Zh b;clear b;go_wp2;go_ret;rw[i.o,d.o,l.o];exact⟨rfl,g⟩)
   | (have d:=Zh f
      obtain⟨q,l⟩:=Qhe ah.o a;have O:=Zh l;clear a f l;obtain⟨z,Q,-,-,-,-⟩:=Ca6 G.o;have I:=cell_of_block P 8 _ rfl;go_enter func183,ntmps183;go_wp2_with fail;rw[<-J.o];refine(ae j k).zR λM h=>?_
      have g:=Zh (k.trans h);have H:=h.cell I;have N:M.cell? ⟨w.heap.size+1,4,none⟩=some (.slice rp r.parts.length B):=h.cell (cell_of_block G.o 4 _ rfl);clear h z Q I;rcases b:Qt (λx:Qv=>x.tid) r.tid s.noes with _|_
      ·have a:Gd s r=false:=by rw[Gd,b];rfl
       have f:=Zh a;clear a;go_wp2_with fail;refine Qs (by kernel_rfl) (by kernel_rfl) ?_;repeat(go_big_quiet_step(fail))
       refine Xg λav h=>?_
       have I:=Zh (g.trans h);clear h b H N;go_wp2;go_ret;rw[i.o,d.o,f.o];exact⟨rfl,I⟩
      ·obtain⟨ps,R⟩:∃ps,ps=Z5 (λx:Qv=>x.tid) r.tid s.noes:=⟨_,rfl⟩
       obtain⟨z,l,-⟩:=Sg (Ze aj.tn) b;rw[<-R]at l ⊢;have a:Gd s r=z.parts.contains q:=by rw[Gd,b,<-R,l,O.o];rfl
       have f:=Zh a;have Z:ps<s.noes.length:=(List.getElem?_eq_some_iff.1 l).1;obtain⟨ax,off,U,V,ad,az,c0,c1,aa⟩:=Vo (T.noes.bel g.o) l;have ao:r.parts[0]?=some q:=by rw[O.o];rfl
       obtain⟨ay,aB,ab,a8,Q⟩:=Yf (af.bel g.o) ao;have ac:r.parts.length=1:=by rw[O.o];rfl
       rw[ad]at H;rw[ab,ac]at N;obtain⟨S,Y⟩:∃S,S=s.noes.length:=⟨_,rfl⟩;rw[<-Y]at H Z;have aA:(ps:Int)<(S:Int):=by omega
       have a9:(0:Int)<=(ps:Int):=by omega
       rw[Nat.add_zero]at Q;have au:=Up.cell H;have ar:=Up.cell N;have aq:=Up.cell c1;have ap:=Up.cell Q;have X:∀W,Bel M W->Calls prog 128 #[.slice U z.parts.length V,.int .i64 q] W λe w'=>e=.returned (.bool (z.parts.contains q))/\W=w':=λW n=>D8 A W U V z.parts (aa.bel n) q
       have n:=Zh X;generalize M:z.parts.contains q=bb at n a;have f:=Zh a;clear a R l ad ab ac X aa c0 c1 Q H N Y M Z;go_wp2_with fail;refine Qs (by kernel_rfl) (by kernel_rfl) ?_;repeat(go_big_quiet_step(first|(go_at_call 128;exact Calls.up_same (n.o _ (Up.bel _)))))
       refine Xg λav h=>?_
       have I:=Zh (g.trans h);clear h b au ar aq ap;rcases bb with _|_
       ·go_wp2
        go_ret;rw[i.o,d.o,f.o];exact⟨rfl,I⟩
       ·go_wp2
        go_ret;rw[i.o,d.o,f.o];exact⟨rfl,I⟩)
theorem Qrc(s:St)(r:Rec)(G:Option Addr)(E:Nat)(z:Option Addr)(v:Nat)(F:Option Addr)(D:Nat)(p:Option Addr)(o:Nat)(y:Option Addr)(sN:Nat)(rp:Option Addr)(n:Nat)(J:Option Addr)(I:Nat)(A:Nat->Prop)(w:World)(d:StR A w s G E z v F D p o y sN)(ok:May s)(i:Rd Qh A w rp n r.parts)(f:Qp r=true):
 Calls prog 184 #[.agg #[.int .i64 s.broker,.int .i64 s.nextId,.int .i64 s.nextSeq,.int .i64 s.tx,.slice G s.ms.length E,.slice z s.waits.length v,.slice F s.ends.length D,.slice p s.opens.length o,.slice y s.noes.length sN],.agg #[.int .i64 r.kind,.int .i64 r.tid,.int .i64 r.id,.bool r.yes,.slice rp r.parts.length n,.slice J r.puts.length I]] w λe w'=>e=.returned (.int .i64 (if Zy s r=true then 12 else 0))/\Bel w w':=by
 obtain⟨V,R⟩:=Zh2 ok i;have l:=Jk (Dj f);have S:=Zh l;obtain⟨t,b⟩:∃t,t=(w.alloc (.cells #[.int .i64 s.broker,.int .i64 s.nextId,.int .i64 s.nextSeq,.int .i64 s.tx,.slice G s.ms.length E,.slice z s.waits.length v,.slice F s.ends.length D,.slice p s.opens.length o,.slice y s.noes.length sN] 43)).alloc (.cells #[.int .i64 r.kind,.int .i64 r.tid,.int .i64 r.id,.bool r.yes,.slice rp r.parts.length n,.slice J r.puts.length I] 124):=⟨_,rfl⟩;have K:Hid (Bel w t):=Zh (by rw[b];exact((Bel.refl w).alloc _).alloc _);have k:t.heap[w.heap.size]?=some (.cells #[.int .i64 s.broker,.int .i64 s.nextId,.int .i64 s.nextSeq,.int .i64 s.tx,.slice G s.ms.length E,.slice z s.waits.length v,.slice F s.ends.length D,.slice p s.opens.length o,.slice y s.noes.length sN] 43 (0,0)):=by rw[b];exact((Bel.refl _).alloc _).heap (heap_alloc_new _ _)
 have j:t.heap[w.heap.size+1]?=some (.cells #[.int .i64 r.kind,.int .i64 r.tid,.int .i64 r.id,.bool r.yes,.slice rp r.parts.length n,.slice J r.puts.length I] 124 (0,0)):=by
  rw[b];have:=heap_alloc_new (w.alloc (.cells #[.int .i64 s.broker,.int .i64 s.nextId,.int .i64 s.nextSeq,.int .i64 s.tx,.slice G s.ms.length E,.slice z s.waits.length v,.slice F s.ends.length D,.slice p s.opens.length o,.slice y s.noes.length sN] 43)) (.cells #[.int .i64 r.kind,.int .i64 r.tid,.int .i64 r.id,.bool r.yes,.slice rp r.parts.length n,.slice J r.puts.length I] 124);simpa using this
 obtain⟨C,H,T⟩:=Zh3 k j b;have m:=fun (W:World) (a:Bel w W)=>U9 A W z v s.waits (d.waits.bel a) (by have:=Qk ok.tw;omega) (Ze ok.tw) r.tid
 have g:=fun (W:World) (a:Bel w W)=>Y4 A W p o s.opens (d.opens.bel a) (by have:=Qk ok.tp;omega) (Ze ok.tp) r.tid
 have q:=fun (W:World) (a:Bel w W)=>Y4 A W y sN s.noes (d.noes.bel a) (by have:=Qk ok.tn;omega) (Ze ok.tn) r.tid
 obtain⟨U,Q⟩:=Zh2 m g;have ac:=Uf f;obtain⟨ah,a⟩:∃c:Int,c=(if Zy s r=true then 12 else 0):=⟨_,rfl⟩;rw[<-a];have h:=Zh a;clear a d ok i f l b k j m g q;have i:=cell_of_block H 1 _ rfl;have d:=cell_of_block C 5 _ rfl;go_enter func184,ntmps184;go_wp2_with fail;rw[<-T.o];refine(U t K).mono ?_;rw[show Qt (λx:Branch=>x.tid) r.tid s.waits=Jj s r.tid from rfl];rintro e L ⟨rfl,a⟩;have M:=Zh a;have g:L.cell? ⟨w.heap.size,7,none⟩=some (.slice p s.opens.length o):=a.cell (cell_of_block C.o 7 _ rfl);have b:L.cell? ⟨w.heap.size+1,1,none⟩=some (.int .i64 r.tid):=a.cell i;clear a i d;go_wp2_with fail;refine(Q L (K.trans M)).mono ?_;rw[show Qt (λx:Qv=>x.tid) r.tid s.opens=Vs s r.tid from rfl];rintro e P ⟨rfl,a⟩;have N:=Zh (M.trans a);have d:P.cell? ⟨w.heap.size,0,none⟩=some (.int .i64 s.broker):=N.cell (cell_of_block C.o 0 _ rfl);have f:P.cell? ⟨w.heap.size+1,1,none⟩=some (.int .i64 r.tid):=a.cell b;have j:=Up.cell d;have k:=Up.cell f;clear a b g;go_wp2_with fail;refine Qs (by kernel_rfl) (by kernel_rfl) ?_;repeat(go_big_quiet_step(first|(go_at_call 67;exact Calls.up_same (Bf r.tid S.o _))))
 refine Xg λa b=>?_
 rw[show(home r.tid==s.broker)=ownB s r.tid from rfl];have q:=Zh (N.trans b);have g:=Zh (K.trans q);clear b d f j k;have ad:a.cell? ⟨w.heap.size+1,0,none⟩=some (.int .i64 r.kind):=q.cell (cell_of_block H.o 0 _ rfl);have i:a.cell? ⟨w.heap.size+1,1,none⟩=some (.int .i64 r.tid):=q.cell (cell_of_block H.o 1 _ rfl);have ae:a.cell? ⟨w.heap.size+1,4,none⟩=some (.slice rp r.parts.length n):=q.cell (cell_of_block H.o 4 _ rfl);have s0:a.cell? ⟨w.heap.size,0,none⟩=some (.int .i64 s.broker):=q.cell (cell_of_block C.o 0 _ rfl);have O:a.cell? ⟨w.heap.size,3,none⟩=some (.int .i64 s.tx):=q.cell (cell_of_block C.o 3 _ rfl);have f:=D8 A a rp n r.parts (R.bel g) s.broker;have B:=Zh f;have ai:=V.tx;clear f;rcases ac with d|d|d|d|d|d|d|d|d;all_goals
  first|(have W:(r.kind==1)=true:=by rw[d];rfl)|(have W:(r.kind==1)=false:=by rw[d];rfl)
  first|(have Z:(r.kind==6)=false:=by rw[d];rfl)|(have Z:(r.kind==6)=true:=by rw[d];rfl)
  first|(have aa:(r.kind==7)=false:=by rw[d];rfl)|(have aa:(r.kind==7)=true:=by rw[d];rfl)
  first|(have ab:(r.kind==8)=false:=by rw[d];rfl)|(have ab:(r.kind==8)=true:=by rw[d];rfl)
  first|(have Y:(r.kind==4)=false:=by rw[d];rfl)|(have Y:(r.kind==4)=true:=by rw[d];rfl)
  first|(have X:(r.kind==3)=false:=by rw[d];rfl)|(have X:(r.kind==3)=true:=by rw[d];rfl)
  first|(have a:Zy s r=!(r.tid==mk s.broker (s.tx+1)):=by simp[Zy,d])|(have a:Zy s r=false:=by simp[Zy,d])|(have a:Zy s r=(Jj s r.tid||Vs s r.tid):=by simp[Zy,d])|(have a:Zy s r=(Jj s r.tid||ownB s r.tid):=by simp[Zy,d])|(have a:Zy s r=(Uy s r||Vs s r.tid):=by simp[Zy,d])|(have a:Zy s r=(Uy s r):=by simp[Zy,d])
  first
   | (have b:=Zh a
      have j:=Up.cell s0;have k:=Up.cell i;have af:=Up.cell O;have aj:IntKind.i64.wrap (s.tx+1)=s.tx+1:=by rw[IntKind.wrap_i64];omega
      clear d a;go_wp2_with fail;refine Qs (by kernel_rfl) (by kernel_rfl) ?_;repeat(go_big_quiet_step(first|(go_at_call 81;exact Calls.up_same (Ms s.broker (s.tx+1) _))))
      refine Xg λl m=>?_
      have l:=Zh (g.trans m);clear m j k af ad i ae s0 O;rcases i:(r.tid==mk s.broker (s.tx+1))with _|_
      ·have k:(r.tid !=mk s.broker (s.tx+1))=true:=by simp only[bne,i];rfl
       have j:=Zh i;clear i;go_wp2;go_ret;rw[h.o,b.o,j.o];exact⟨rfl,l⟩
      ·have k:(r.tid !=mk s.broker (s.tx+1))=false:=by simp only[bne,i];rfl
       have j:=Zh i;clear i;go_wp2;go_ret;rw[h.o,b.o,j.o];exact⟨rfl,l⟩)
   | (have b:=Zh a
      clear d a;go_wp2;go_ret;rw[h.o,b.o];exact⟨rfl,g⟩)
   | (clear d
      rcases i:Jj s r.tid with _|_
      ·rcases m:Vs s r.tid with _|_
       ·have b:=Zh (show Zy s r=false by rw[a,i,m];rfl)
        clear a;go_wp2;go_ret;rw[h.o,b.o];exact⟨rfl,g⟩
       ·have b:=Zh (show Zy s r=true by rw[a,i,m];rfl)
        clear a;go_wp2;go_ret;rw[h.o,b.o];exact⟨rfl,g⟩
      ·have b:=Zh (show Zy s r=true by rw[a,i];rfl)
       clear a;go_wp2;go_ret;rw[h.o,b.o];exact⟨rfl,g⟩)
   | (clear d
      rcases i:Jj s r.tid with _|_
      ·rcases m:ownB s r.tid with _|_
       ·have b:=Zh (show Zy s r=false by rw[a,i,m];rfl)
        clear a;go_wp2;go_ret;rw[h.o,b.o];exact⟨rfl,g⟩
       ·have b:=Zh (show Zy s r=true by rw[a,i,m];rfl)
        clear a;go_wp2;go_ret;rw[h.o,b.o];exact⟨rfl,g⟩
      ·have b:=Zh (show Zy s r=true by rw[a,i];rfl)
       clear a;go_wp2;go_ret;rw[h.o,b.o];exact⟨rfl,g⟩)
   | (clear d
      rcases k:ownB s r.tid with _|_
      ·have b:=Zh (show Zy s r=true by rw[a];simp[Uy,k])
       clear a;go_wp2;go_ret;rw[h.o,b.o];exact⟨rfl,g⟩
      ·rcases i:Jj s r.tid with _|_
       ·rcases j:r.parts.contains s.broker with _|_
        ·rcases m:Vs s r.tid with _|_
         ·have b:=Zh (show Zy s r=false by rw[a];simp only[Uy,k,i,j,m];rfl)
          clear a;have f:=B.o;rw[j]at f;have l:=Zh f;clear f;go_wp2_with fail;refine l.zS ?_;go_wp2;go_ret;rw[h.o,b.o];exact⟨rfl,g⟩
         ·have b:=Zh (show Zy s r=true by rw[a];simp only[Uy,k,i,j,m];rfl)
          clear a;have f:=B.o;rw[j]at f;have l:=Zh f;clear f;go_wp2_with fail;refine l.zS ?_;go_wp2;go_ret;rw[h.o,b.o];exact⟨rfl,g⟩
        ·have b:=Zh (show Zy s r=true by rw[a];simp only[Uy,k,i,j];rfl)
         clear a;have f:=B.o;rw[j]at f;have l:=Zh f;clear f;go_wp2_with fail;refine l.zS ?_;go_wp2;go_ret;rw[h.o,b.o];exact⟨rfl,g⟩
       ·have b:=Zh (show Zy s r=true by rw[a];simp only[Uy,k,i];rfl)
        clear a;go_wp2;go_ret;rw[h.o,b.o];exact⟨rfl,g⟩)
   | (clear d
      rcases k:ownB s r.tid with _|_
      ·have b:=Zh (show Zy s r=true by rw[a];simp[Uy,k])
       clear a;go_wp2;go_ret;rw[h.o,b.o];exact⟨rfl,g⟩
      ·rcases i:Jj s r.tid with _|_
       ·rcases j:r.parts.contains s.broker with _|_
        ·have b:=Zh (show Zy s r=false by rw[a];simp only[Uy,k,i,j];rfl)
         clear a;have f:=B.o;rw[j]at f;have l:=Zh f;clear f;go_wp2_with fail;refine l.zS ?_;go_wp2;go_ret;rw[h.o,b.o];exact⟨rfl,g⟩
        ·have b:=Zh (show Zy s r=true by rw[a];simp only[Uy,k,i,j];rfl)
         clear a;have f:=B.o;rw[j]at f;have l:=Zh f;clear f;go_wp2_with fail;refine l.zS ?_;go_wp2;go_ret;rw[h.o,b.o];exact⟨rfl,g⟩
       ·have b:=Zh (show Zy s r=true by rw[a];simp only[Uy,k,i];rfl)
        clear a;go_wp2;go_ret;rw[h.o,b.o];exact⟨rfl,g⟩)
theorem Qdy{s:St}{a:Int}(h:Sc s a=true):∃(i:Nat) (m:Msg),Kz (λm:Msg=>m.id==a) s.ms=i/\s.ms[i]?=some m/\m.id=a/\Sd s a=m.who:=by
 obtain⟨i,m,d,b,c,e⟩:=Ta (p:=λm:Msg=>m.id==a) h;refine⟨i,m,d,b,by simpa using c,?_⟩;have:s.ms.find? (λm:Msg=>m.id==a)=some m:=by
  rw[List.find?_eq_some_iff_getElem];obtain⟨g,rfl⟩:=List.getElem?_eq_some_iff.1 b;exact⟨c,i,g,rfl,λj f=>by
   have:=e j s.ms[j] f (by simp);simpa using this⟩
 rw[Sd,this]
theorem Qty(s:St)(r:Rec)(z:Option Addr)(v:Nat)(o:Option Addr)(l:Nat)(y:Option Addr)(t:Nat)(h:Option Addr)(g:Nat)(n:Option Addr)(sN:Nat)(rp:Option Addr)(E:Nat)(H:Option Addr)(G:Nat)(A:Nat->Prop)(w:World)(b:StR A w s z v o l y t h g n sN)(ok:May s)(f:r.kind=2->Sc s r.id=true)(M:Rd Qh A w rp E r.parts)(p:Qp r=true):
 Calls prog 185 #[.agg #[.int .i64 s.broker,.int .i64 s.nextId,.int .i64 s.nextSeq,.int .i64 s.tx,.slice z s.ms.length v,.slice o s.waits.length l,.slice y s.ends.length t,.slice h s.opens.length g,.slice n s.noes.length sN],.agg #[.int .i64 r.kind,.int .i64 r.tid,.int .i64 r.id,.bool r.yes,.slice rp r.parts.length E,.slice H r.puts.length G]] w λe w'=>e=.returned (.int .i64 (if Kc s r=true then 8 else 0))/\Bel w w':=by
 have O:=Zh b;have N:=Jk (Dj p);obtain⟨q,j⟩:∃q,q=(w.alloc (.cells #[.int .i64 s.broker,.int .i64 s.nextId,.int .i64 s.nextSeq,.int .i64 s.tx,.slice z s.ms.length v,.slice o s.waits.length l,.slice y s.ends.length t,.slice h s.opens.length g,.slice n s.noes.length sN] 43)).alloc (.cells #[.int .i64 r.kind,.int .i64 r.tid,.int .i64 r.id,.bool r.yes,.slice rp r.parts.length E,.slice H r.puts.length G] 124):=⟨_,rfl⟩;have B:Hid (Bel w q):=Zh (by rw[j];exact((Bel.refl w).alloc _).alloc _);have F:q.heap[w.heap.size]?=some (.cells #[.int .i64 s.broker,.int .i64 s.nextId,.int .i64 s.nextSeq,.int .i64 s.tx,.slice z s.ms.length v,.slice o s.waits.length l,.slice y s.ends.length t,.slice h s.opens.length g,.slice n s.noes.length sN] 43 (0,0)):=by rw[j];exact((Bel.refl _).alloc _).heap (heap_alloc_new _ _)
 have D:q.heap[w.heap.size+1]?=some (.cells #[.int .i64 r.kind,.int .i64 r.tid,.int .i64 r.id,.bool r.yes,.slice rp r.parts.length E,.slice H r.puts.length G] 124 (0,0)):=by
  rw[j];have:=heap_alloc_new (w.alloc (.cells #[.int .i64 s.broker,.int .i64 s.nextId,.int .i64 s.nextSeq,.int .i64 s.tx,.slice z s.ms.length v,.slice o s.waits.length l,.slice y s.ends.length t,.slice h s.opens.length g,.slice n s.noes.length sN] 43)) (.cells #[.int .i64 r.kind,.int .i64 r.tid,.int .i64 r.id,.bool r.yes,.slice rp r.parts.length E,.slice H r.puts.length G] 124);simpa using this
 obtain⟨J,I,P⟩:=Zh3 F D j;have K:=fun (W:World) (a:Bel w W)=>U9 A W o l s.waits (b.waits.bel a) (by have:=Qk ok.tw;omega) (Ze ok.tw) r.tid
 have C:=fun (W:World) (a:Bel w W)=>Y4 A W h g s.opens (b.opens.bel a) (by have:=Qk ok.tp;omega) (Ze ok.tp) r.tid
 have L:=fun (W:World) (a:Bel w W)=>Y4 A W n sN s.noes (b.noes.bel a) (by have:=Qk ok.tn;omega) (Ze ok.tn) r.tid
 obtain⟨U,S⟩:=Zh2 K C;have ao:=Uf p;obtain⟨ai,k⟩:∃c:Int,c=(if Kc s r=true then 8 else 0):=⟨_,rfl⟩;rw[<-k];have d:=Zh k;clear k b ok M p N j F D K C L;obtain⟨N,K,-,-,-,-⟩:=Ca6 I.o;have R:=cell_of_block J 5 _ rfl;rcases b:(r.kind==2)with _|_
 ·have j:Kc s r=false:=by rw[Kc,b];rfl
  have p:=Zh j;have X:(r.kind !=2)=true:=by simp only[bne,b];rfl
  clear j b;go_enter func185,ntmps185;go_wp2;go_ret;rw[d.o,p.o,<-P.o];exact⟨rfl,B⟩
 ·have j:Kc s r=((!(Sd s r.id==0)&&!(Sd s r.id==r.tid))||Jj s r.tid||Vs s r.tid):=by rw[Kc,b];rfl
  have X:(r.kind !=2)=false:=by simp only[bne,b];rfl
  obtain⟨i,m,C,k,M,L⟩:=Qdy (f (by simpa using b));rw[L]at j;obtain⟨p,Q⟩:=Zh2 j C;have an:i<s.ms.length:=(List.getElem?_eq_some_iff.1 k).1;obtain⟨aj,off,F,ak,-,-,-,-,-,D⟩:=Yl (O.ms.bel B.o) k;have T:=Zh F;clear j b f C k M L F;go_enter func185,ntmps185;go_wp2_with fail;rw[<-P.o];refine(U q B).mono ?_;rw[show Qt (λx:Branch=>x.tid) r.tid s.waits=Jj s r.tid from rfl];rintro e L ⟨rfl,b⟩;have M:=Zh b;have k:L.cell? ⟨w.heap.size,7,none⟩=some (.slice h s.opens.length g):=b.cell (cell_of_block J.o 7 _ rfl);have j:L.cell? ⟨w.heap.size+1,1,none⟩=some (.int .i64 r.tid):=b.cell K;clear b K N R;go_wp2_with fail;refine(S L (B.trans M)).mono ?_;rw[show Qt (λx:Qv=>x.tid) r.tid s.opens=Vs s r.tid from rfl];rintro e ah ⟨rfl,b⟩;have C:=Zh (M.trans b);have N:=Zh (B.trans C);clear b j k;have f:=fun (W:World) (a:Bel ah W)=>Px s z v o l y t h g n sN A W (O.ms.bel (N.trans a)) r.id
  rw[Q.o]at f;have R:=Zh f;have b:=C.heap J;have a:=C.heap I;obtain⟨k,V,W,Y,Z,aa,ab,ac,ad⟩:=Ua9 b;have ae:=Up.cell (cell_of_block a 2 _ rfl);have af:=Up.cell (C.cell D);have F:=T.o;subst F;have al:(0:Int)<=(i:Int):=by omega
  have am:(i:Int)<(s.ms.length:Int):=by omega
  clear b a f D;go_wp2_with fail;refine Qs (by kernel_rfl) (by kernel_rfl) ?_;repeat(go_big_quiet_step(first|(go_at_call 270;exact Calls.up (R.o _ (Up.bel _)))))
  refine Xg λb a=>?_
  have j:=Zh (N.trans a);have K:b.cell? ⟨w.heap.size+1,1,none⟩=some (.int .i64 r.tid):=a.cell (C.cell (cell_of_block I.o 1 _ rfl));clear a k V W Y Z aa ab ac ad ae af;generalize m.who=who at p;rcases f:(who==0)with _|_
  ·have V:(who !=0)=true:=by simp only[bne,f];rfl
   rcases a:(who==r.tid)with _|_
   ·have W:(who !=r.tid)=true:=by simp only[bne,a];rfl
    have b:=Zh (show Kc s r=true by rw[p.o,f,a];rfl);clear f a;go_wp2;go_ret;rw[d.o,b.o];exact⟨rfl,j⟩
   ·have W:(who !=r.tid)=false:=by simp only[bne,a];rfl
    have b:=Zh (show Kc s r=(Jj s r.tid||Vs s r.tid) by rw[p.o,f,a];rfl);clear f a;rcases k:Jj s r.tid with _|_
    ·rcases D:Vs s r.tid with _|_
     ·have a:=Zh (show Kc s r=false by rw[b.o,k,D];rfl)
      go_wp2;go_ret;rw[d.o,a.o];exact⟨rfl,j⟩
     ·have a:=Zh (show Kc s r=true by rw[b.o,k,D];rfl)
      go_wp2;go_ret;rw[d.o,a.o];exact⟨rfl,j⟩
    ·have a:=Zh (show Kc s r=true by rw[b.o,k];rfl)
     go_wp2;go_ret;rw[d.o,a.o];exact⟨rfl,j⟩
  ·have V:(who !=0)=false:=by simp only[bne,f];rfl
   have b:=Zh (show Kc s r=(Jj s r.tid||Vs s r.tid) by rw[p.o,f];rfl);clear f;rcases k:Jj s r.tid with _|_
   ·rcases D:Vs s r.tid with _|_
    ·have a:=Zh (show Kc s r=false by rw[b.o,k,D];rfl)
     go_wp2;go_ret;rw[d.o,a.o];exact⟨rfl,j⟩
    ·have a:=Zh (show Kc s r=true by rw[b.o,k,D];rfl)
     go_wp2;go_ret;rw[d.o,a.o];exact⟨rfl,j⟩
   ·have a:=Zh (show Kc s r=true by rw[b.o,k];rfl)
    go_wp2;go_ret;rw[d.o,a.o];exact⟨rfl,j⟩
theorem Qtz(s:St)(r:Rec)(F:Option Addr)(D:Nat)(z:Option Addr)(v:Nat)(E:Option Addr)(C:Nat)(y:Option Addr)(t:Nat)(x:Option Addr)(sN:Nat)(rp:Option Addr)(I:Nat)(L:Option Addr)(K:Nat)(A:Nat->Prop)(w:World)(a:StR A w s F D z v E C y t x sN)(ok:May s)(few:Few s)(o:Rd Qh A w rp I r.parts)(j:Qp r=true):
 Calls prog 186 #[.agg #[.int .i64 s.broker,.int .i64 s.nextId,.int .i64 s.nextSeq,.int .i64 s.tx,.slice F s.ms.length D,.slice z s.waits.length v,.slice E s.ends.length C,.slice y s.opens.length t,.slice x s.noes.length sN],.agg #[.int .i64 r.kind,.int .i64 r.tid,.int .i64 r.id,.bool r.yes,.slice rp r.parts.length I,.slice L r.puts.length K]] w λe w'=>e=.returned (.int .i64 (if Jf s r=true then 5 else 0))/\Bel w w':=by
 obtain⟨Y,aa,Z⟩:=Zh3 a ok j;have p:=Jk (Dj j);obtain⟨B,d⟩:∃B,B=(w.alloc (.cells #[.int .i64 s.broker,.int .i64 s.nextId,.int .i64 s.nextSeq,.int .i64 s.tx,.slice F s.ms.length D,.slice z s.waits.length v,.slice E s.ends.length C,.slice y s.opens.length t,.slice x s.noes.length sN] 43)).alloc (.cells #[.int .i64 r.kind,.int .i64 r.tid,.int .i64 r.id,.bool r.yes,.slice rp r.parts.length I,.slice L r.puts.length K] 124):=⟨_,rfl⟩;have g:Hid (Bel w B):=Zh (by rw[d];exact((Bel.refl w).alloc _).alloc _);have l:B.heap[w.heap.size]?=some (.cells #[.int .i64 s.broker,.int .i64 s.nextId,.int .i64 s.nextSeq,.int .i64 s.tx,.slice F s.ms.length D,.slice z s.waits.length v,.slice E s.ends.length C,.slice y s.opens.length t,.slice x s.noes.length sN] 43 (0,0)):=by rw[d];exact((Bel.refl _).alloc _).heap (heap_alloc_new _ _)
 have k:B.heap[w.heap.size+1]?=some (.cells #[.int .i64 r.kind,.int .i64 r.tid,.int .i64 r.id,.bool r.yes,.slice rp r.parts.length I,.slice L r.puts.length K] 124 (0,0)):=by
  rw[d];have:=heap_alloc_new (w.alloc (.cells #[.int .i64 s.broker,.int .i64 s.nextId,.int .i64 s.nextSeq,.int .i64 s.tx,.slice F s.ms.length D,.slice z s.waits.length v,.slice E s.ends.length C,.slice y s.opens.length t,.slice x s.noes.length sN] 43)) (.cells #[.int .i64 r.kind,.int .i64 r.tid,.int .i64 r.id,.bool r.yes,.slice rp r.parts.length I,.slice L r.puts.length K] 124);simpa using this
 obtain⟨i,J,h⟩:=Zh3 l k d;have q:=fun (W:World) (b:Bel w W)=>U9 A W z v s.waits (a.waits.bel b) (by have:=Qk ok.tw;omega) (Ze ok.tw) r.tid
 have n:=fun (W:World) (b:Bel w W)=>Y4 A W y t s.opens (a.opens.bel b) (by have:=Qk ok.tp;omega) (Ze ok.tp) r.tid
 have m:=fun (W:World) (b:Bel w W)=>Y4 A W x sN s.noes (a.noes.bel b) (by have:=Qk ok.tn;omega) (Ze ok.tn) r.tid
 have ab:=Uf j;obtain⟨ad,b⟩:∃c:Int,c=(if Jf s r=true then 5 else 0):=⟨_,rfl⟩;rw[<-b];have f:=Zh b;clear b a ok o j p d l k q n m;have ae:(s.tx>=200)=False:=eq_false (by have:=few.tx;omega);have af:((s.waits.length:Int)>=2000)=False:=eq_false (by have:=few.waits;omega);have ah:((s.ends.length:Int)>=2000)=False:=eq_false (by have:=few.ends;omega);have ai:((s.opens.length:Int)>=2000)=False:=eq_false (by have:=few.opens;omega);have aj:((s.noes.length:Int)>=2000)=False:=eq_false (by have:=few.noes;omega);have ak:r.puts.length<=10:=by
  have a:=Z.o;simp only[Qp,Bool.and_eq_true,decide_eq_true_eq]at a;have b:=a.2.1.2;have d:Jw r.kind<=10:=by unfold Jw;split<;>(try split)<;>omega
  omega
 have a:=Qtw s F D z v E C y t x sN A B (Y.bel g.o) aa.o r.puts.length ⟨by omega,by omega⟩;have N:=Zh a;clear few a;have s0:=cell_of_block i 0 _ rfl;have Q:=cell_of_block i 1 _ rfl;have R:=cell_of_block i 2 _ rfl;have S:=cell_of_block i 3 _ rfl;have T:=cell_of_block i 4 _ rfl;have U:=cell_of_block i 5 _ rfl;have V:=cell_of_block i 6 _ rfl;have W:=cell_of_block i 7 _ rfl;have X:=cell_of_block i 8 _ rfl;have O:=cell_of_block J 0 _ rfl;have M:=cell_of_block J 4 _ rfl;have P:=cell_of_block J 5 _ rfl;rcases ab with a|a|a|a|a|a|a|a|a
 ·have j:=Zh a
  have k:(r.kind==1)=true:=by rw[a];rfl
  have m:(r.kind==4)=false:=by rw[a];rfl
  have o:(r.kind==6)=false:=by rw[a];rfl
  have l:(r.kind==3)=false:=by rw[a];rfl
  have n:(r.kind==5)=false:=by rw[a];rfl
  have p:(r.kind==7)=false:=by rw[a];rfl
  have q:(r.kind==8)=false:=by rw[a];rfl
  have b:Jf s r=false:=by rw[Jf,a];rfl
  have d:=Zh b;clear a b;go_enter func186,ntmps186;go_wp2;go_ret;rw[f.o,d.o,<-h.o];exact⟨rfl,g⟩
 ·have j:=Zh a
  have k:(r.kind==1)=false:=by rw[a];rfl
  have m:(r.kind==4)=false:=by rw[a];rfl
  have o:(r.kind==6)=false:=by rw[a];rfl
  have l:(r.kind==3)=false:=by rw[a];rfl
  have n:(r.kind==5)=false:=by rw[a];rfl
  have p:(r.kind==7)=false:=by rw[a];rfl
  have q:(r.kind==8)=false:=by rw[a];rfl
  have b:Jf s r=false:=by rw[Jf,a];rfl
  have d:=Zh b;clear a b;go_enter func186,ntmps186;go_wp2;go_ret;rw[f.o,d.o,<-h.o];exact⟨rfl,g⟩
 ·have j:=Zh a
  have k:(r.kind==1)=false:=by rw[a];rfl
  have m:(r.kind==4)=false:=by rw[a];rfl
  have o:(r.kind==6)=false:=by rw[a];rfl
  have l:(r.kind==3)=true:=by rw[a];rfl
  have n:(r.kind==5)=false:=by rw[a];rfl
  have p:(r.kind==7)=false:=by rw[a];rfl
  have q:(r.kind==8)=false:=by rw[a];rfl
  have b:Jf s r=false:=by rw[Jf,a];rfl
  have d:=Zh b;clear a b;go_enter func186,ntmps186;go_wp2;go_ret;rw[f.o,d.o,<-h.o];exact⟨rfl,g⟩
 ·have j:=Zh a
  have k:(r.kind==1)=false:=by rw[a];rfl
  have m:(r.kind==4)=true:=by rw[a];rfl
  have o:(r.kind==6)=false:=by rw[a];rfl
  have l:(r.kind==3)=false:=by rw[a];rfl
  have n:(r.kind==5)=false:=by rw[a];rfl
  have p:(r.kind==7)=false:=by rw[a];rfl
  have q:(r.kind==8)=false:=by rw[a];rfl
  have b:Jf s r=!U4 s r.puts.length:=by rw[Jf,a];rfl
  have d:=Zh b;clear a b;go_enter func186,ntmps186;go_wp2_with fail;rw[<-h.o];refine N.mono ?_;generalize U4 s r.puts.length=fb at d;rintro e ac ⟨rfl,H⟩;have G:=Zh (g.trans H);clear H s0 Q R S T U V W X O M P;rcases fb with _|_
  ·go_wp2
   go_ret;rw[f.o,d.o];exact⟨rfl,G⟩
  ·go_wp2
   go_ret;rw[f.o,d.o];exact⟨rfl,G⟩
 ·have j:=Zh a
  have k:(r.kind==1)=false:=by rw[a];rfl
  have m:(r.kind==4)=false:=by rw[a];rfl
  have o:(r.kind==6)=false:=by rw[a];rfl
  have l:(r.kind==3)=false:=by rw[a];rfl
  have n:(r.kind==5)=true:=by rw[a];rfl
  have p:(r.kind==7)=false:=by rw[a];rfl
  have q:(r.kind==8)=false:=by rw[a];rfl
  have b:Jf s r=false:=by rw[Jf,a];rfl
  have d:=Zh b;clear a b;go_enter func186,ntmps186;go_wp2;go_ret;rw[f.o,d.o,<-h.o];exact⟨rfl,g⟩
 ·have j:=Zh a
  have k:(r.kind==1)=false:=by rw[a];rfl
  have m:(r.kind==4)=false:=by rw[a];rfl
  have o:(r.kind==6)=true:=by rw[a];rfl
  have l:(r.kind==3)=false:=by rw[a];rfl
  have n:(r.kind==5)=false:=by rw[a];rfl
  have p:(r.kind==7)=false:=by rw[a];rfl
  have q:(r.kind==8)=false:=by rw[a];rfl
  have b:Jf s r=false:=by rw[Jf,a];rfl
  have d:=Zh b;clear a b;go_enter func186,ntmps186;go_wp2;go_ret;rw[f.o,d.o,<-h.o];exact⟨rfl,g⟩
 ·have j:=Zh a
  have k:(r.kind==1)=false:=by rw[a];rfl
  have m:(r.kind==4)=false:=by rw[a];rfl
  have o:(r.kind==6)=false:=by rw[a];rfl
  have l:(r.kind==3)=false:=by rw[a];rfl
  have n:(r.kind==5)=false:=by rw[a];rfl
  have p:(r.kind==7)=true:=by rw[a];rfl
  have q:(r.kind==8)=false:=by rw[a];rfl
  have b:Jf s r=!U4 s r.puts.length:=by rw[Jf,a];rfl
  have d:=Zh b;clear a b;go_enter func186,ntmps186;go_wp2_with fail;rw[<-h.o];refine N.mono ?_;generalize U4 s r.puts.length=fb at d;rintro e ac ⟨rfl,H⟩;have G:=Zh (g.trans H);clear H s0 Q R S T U V W X O M P;rcases fb with _|_
  ·go_wp2
   go_ret;rw[f.o,d.o];exact⟨rfl,G⟩
  ·go_wp2
   go_ret;rw[f.o,d.o];exact⟨rfl,G⟩
 ·have j:=Zh a
  have k:(r.kind==1)=false:=by rw[a];rfl
  have m:(r.kind==4)=false:=by rw[a];rfl
  have o:(r.kind==6)=false:=by rw[a];rfl
  have l:(r.kind==3)=false:=by rw[a];rfl
  have n:(r.kind==5)=false:=by rw[a];rfl
  have p:(r.kind==7)=false:=by rw[a];rfl
  have q:(r.kind==8)=true:=by rw[a];rfl
  have b:Jf s r=false:=by rw[Jf,a];rfl
  have d:=Zh b;clear a b;generalize r.parts.length=G at J h M ⊢;by_cases H:(G:Int)>0
  ·skip
   go_enter func186,ntmps186;go_wp2;go_ret;rw[f.o,d.o,<-h.o];exact⟨rfl,g⟩
  ·obtain rfl:G=0:=by omega
   clear H;go_enter func186,ntmps186;go_wp2;go_ret;rw[f.o,d.o,<-h.o];exact⟨rfl,g⟩
 ·have j:=Zh a
  have k:(r.kind==1)=false:=by rw[a];rfl
  have m:(r.kind==4)=false:=by rw[a];rfl
  have o:(r.kind==6)=false:=by rw[a];rfl
  have l:(r.kind==3)=false:=by rw[a];rfl
  have n:(r.kind==5)=false:=by rw[a];rfl
  have p:(r.kind==7)=false:=by rw[a];rfl
  have q:(r.kind==8)=false:=by rw[a];rfl
  have b:Jf s r=false:=by rw[Jf,a];rfl
  have d:=Zh b;clear a b;go_enter func186,ntmps186;go_wp2;go_ret;rw[f.o,d.o,<-h.o];exact⟨rfl,g⟩
end Go.Proofs.YtkdpmdfcdgphlaaGreat

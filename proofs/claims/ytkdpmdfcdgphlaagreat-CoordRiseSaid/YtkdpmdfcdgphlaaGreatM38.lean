/- Part of this claim's proof. Conditions: as its theorems say. -/
import Derived.Test.YtkdpmdfcdgphlaaGreatM30
set_option linter.all false
set_option maxHeartbeats 8000000
set_option maxRecDepth 100000
namespace Go.Po
open Go.Mem Go.Proofs.YtkdpmdfcdgphlaaGreat
def Kv:List UInt8:=[111,110,101]
def Bv:List UInt8:=[116,119,111]
def abL:List UInt8:=[97,98]
def v41:Vw:=Xi (Qe 0) (Z7 Kv) []
def v42:Vw:=Zg (Qe 0) v41
def v43:Vw:=Xi (Qe 0) (Z7 Bv) v42
theorem Nq:Xj Kv=true/\Xj Bv=true/\Xj abL=true/\Xj []=false/\Je [] 0=[]/\Cn [] 0=false/\Cn v42 0=false/\used v42=9/\v42.length=1/\used v43=18/\v43.length=1:=
 ⟨by kernel_rfl,by kernel_rfl,by kernel_rfl,by kernel_rfl,by kernel_rfl,by kernel_rfl,by kernel_rfl,by kernel_rfl,by kernel_rfl,by kernel_rfl,by kernel_rfl⟩
theorem Qw5:Be v43 0 (Z8 0) 0 0 [] [Kv,Bv] 1:=by
 have a:=Pf (Qun 0) (by omega) Nq.1;have b:=Qbm a (by omega);exact Pf b (by omega) Nq.2.1
theorem Qyl:Yr (Z7 abL)=.ok abL 8:=by
 have:=Td Nq.2.2.1 [];rw[List.append_nil]at this;exact this
theorem Qnz{a:Vw}{n:Int}(c:a.Perm (Jm n v43)):∃a2,Te a 0 (Z8 0) 0 0 (Kv::a2)/\a2.length<=1/\(∀x∈Kv::a2,x.length<=4000)/\used a<=18/\a.length<=1:=by
 have d:used a<=18/\a.length<=1:=by
  constructor
  ·rw[Ub c];exact Nat.le_trans (Ny _ _) (Nat.le_of_eq Nq.2.2.2.2.2.2.2.2.2.1)
  ·rw[c.length_eq];simp only[Jm,List.length_map];exact Nat.le_trans (List.length_filter_le _ _) (Nat.le_of_eq Nq.2.2.2.2.2.2.2.2.2.2)
 obtain⟨l,M,g,e,f,b⟩:=Qho Qw5 (by omega) n c;obtain rfl:l=0:=by omega
 simp only[List.flatten_nil,List.nil_append,List.length_nil,List.length_cons]at e f b;obtain rfl|rfl:M=1\/M=2:=by omega
 ·exact⟨[],b,by simp,by simp[Kv],d⟩
 ·exact⟨[Bv],b,by simp,by simp[Kv,Bv],d⟩
end Go.Po
namespace Go.Proofs.YtkdpmdfcdgphlaaGreat
open Tryz
open Go.RowKit Go.Mem Go.Po
theorem Qdw(A c:Nat->Prop)(w:World)(j:∀k,A k->k<w.heap.size)(d:Nat)(g:Int)(v:Vw)(i:Dk A c w d g v){b:Int}{s0:St}{last:Nat}{all:List (List UInt8)}(a:Te v b s0 0 last all)(m:(used v:Int)+used v<=g)(l:v.length<100000):
 Calls prog 101 #[.pointer (some ⟨d,0,none⟩),.int .i64 0] w λe w'=>∃h Od' f,e=.returned (.tuple #[.pointer (some ⟨h,0,none⟩),.int .i64 0])/\Lg (λk=>A k\/Od' k\/f k) Od' f w' h d g (Je v last) last all/\Kept c w w'/\(∀k,Od' k->c k\/w.heap.size<=k)/\∀k,f k->w.heap.size<=k:=by
 have f:=Ym a.n1;have h:=Qdf A c w j d g v i 0 (by omega) last (f.symm▸a.tops) (by rw[f];exact a.good) (by rw[f];exact a.err) m l;rw[f,a.segs]at h;exact h
theorem Qpc(w:World)(d:Nat):Calls prog 145 #[.pointer (some ⟨d,0,none⟩),.slice none 0 0] w λe w'=>e=.returned (.int .i64 1)/\Bel w w':=by
 have c:=Zh Nq;have f:∀w:World,Sem.run prog (binOp BinOp.eql 179 (.slice none 0 0) (.slice none 0 0)) w=.ok (.bool true) w:=λw=>rfl
 go_enter func145,ntmps145;go_wp2_with fail;refine(Qve (λ_=>False) w none 0 [] (Rd.nil _ _ _ none 0 (Nat.zero_le _)) c.2.2.2.1).zR λa a=>?_
 have b:=Zh a;clear a;go_wp2;go_ret;exact⟨rfl,b⟩
theorem Qpd(w:World):Calls prog 308 #[] w λe w'=>e=.returned (.bool true)/\Bel w w':=by
 obtain⟨m,aJ⟩:=Zh2 Nq Qyl;have ai:=fun (w:World) (C:Array Value) (n c:Nat)=>Lib.run_convert_bytes_const (P:=prog) w 179 5 C n c underlying179 underlying5
 go_enter func308,ntmps308;go_wp2_with fail;refine(Cg w 1048576 (by omega)).mono ?_;rintro e av ⟨rfl,p,l,r⟩;have a:Dk (λk=>k=w.heap.size+1\/k=w.heap.size) (λk=>k=w.heap.size+1\/k=w.heap.size) av (w.heap.size+1) 1048576 []:=⟨w.heap.size,[],p _ λ_ h=>h,rfl,by omega,by omega⟩;obtain⟨O,d⟩:=Zx (λk=>k=w.heap.size+1\/k=w.heap.size);obtain⟨b,o⟩:=Zx (w.heap.size+1);have q:∀k,O k->w.heap.size<=k:=λk h=>by rw[d]at h;omega
 rw[<-d]at a;rw[<-o]at a ⊢;have i:=Qdw O O av a.lt b 1048576 [] a (Qhn 0) (by simp[used]) (by simp);rw[Nq.2.2.2.2.1]at i;obtain⟨K,N,am⟩:=Zh3 i l q;clear p l r a d o q i;go_wp2_with fail;refine K.mono ?_;rintro e v ⟨a,G,I,rfl,B,k2,F,E⟩;obtain⟨D,p⟩:=Zx (λk=>G k\/I k);have s:Lg D G I v a b 1048576 [] 0 []:=B.mono (λk _ h=>by rw[p]at h;exact .inr h) λk h=>by rw[p];exact h
 have aC:=Zh (N.of_kept k2 am);have A:∀k,G k\/I k->w.heap.size<=k:=λk h=>h.elim (λh=>(F k h).elim (am.o k) λh=>Nat.le_trans N.size h) λh=>Nat.le_trans N.size (E k h)
 have t:∀k,D k->k<v.heap.size:=λk h=>by rw[p]at h;exact h.elim (s.d.lt k) (s.l.lt k)
 obtain⟨T,r⟩:=Zx (v.alloc (.cells #[.int .u8 111,.int .u8 110,.int .u8 101] 5 (3,4)));have o:=Zb r;have y:T.heap[v.heap.size]?=some (.cells #[.int .u8 111,.int .u8 110,.int .u8 101] 5 (3,4)):=r▸heap_alloc_new _ _;have l:Rd Ql D T (some ⟨v.heap.size,0,none⟩) 3 Kv:=⟨[.int .u8 111,.int .u8 110,.int .u8 101],Ch.flat (f:=λx:UInt8=>[Value.int .u8 x.toNat]) (size:=1) (λ_=>rfl) Kv,rfl,by simp[Kv],by simp[maxLen],λ_=>⟨v.heap.size,0,_,_,_,rfl,Qb y,λd=>absurd (t _ d) (by omega),y,λj Q z=>by simpa using z⟩⟩;have q:=M4 D G I T (λk d=>Nat.lt_of_lt_of_le (t k d) o.size) a b 1048576 [] 0 [] (s.bel o) m.2.2.2.2.2.1 (by omega) _ 3 Kv l m.1 (by simp[used,Kv]) (by simp) (by simp);rw[show Kv.length=3 from rfl]at q;obtain⟨H,aP,ad,R⟩:=Zh4 q r (aC.trans o) A;clear B k2 F E p s A t r o y l q;go_wp2_with fail;rw[<-aP.o];refine H.mono ?_;rintro e ax ⟨rfl,o,p,s,r,t⟩;obtain⟨aD,al,aT⟩:=Zh3 (ad.of_kept r R.o) (show ∀k,o k\/p k->w.heap.size<=k fromλk h=>(t k h).elim (λh=>R.o k (.inl h)) λh=>h.elim (λh=>R.o k (.inr h)) λh=>Nat.le_trans ad.size h) (show Lg (λk=>o k\/p k) o p ax a b 1048576 v41 0 [Kv] from s.mono (λk _ h=>.inr h) λk h=>h);clear s r t;go_wp2_with fail;refine(M0 _ o p ax a b 1048576 v41 0 [Kv] aT.o (by omega)).mono ?_;rintro e y ⟨rfl,M,L⟩;have aE:=Zh (aD.of_kept L λk h=>al k (.inl h));obtain⟨E,A⟩:=Zx (λk=>o k\/p k);have t:Lg E o p y a b 1048576 v42 0 [Kv]:=A▸M;have B:∀k,E k->k<y.heap.size:=λk h=>by rw[A]at h;exact h.elim (t.d.lt k) (t.l.lt k)
 obtain⟨U,s⟩:=Zx (y.alloc (.cells #[.int .u8 116,.int .u8 119,.int .u8 111] 5 (3,4)));have r:=Zb s;have F:U.heap[y.heap.size]?=some (.cells #[.int .u8 116,.int .u8 119,.int .u8 111] 5 (3,4)):=s▸heap_alloc_new _ _;have l:Rd Ql E U (some ⟨y.heap.size,0,none⟩) 3 Bv:=⟨[.int .u8 116,.int .u8 119,.int .u8 111],Ch.flat (f:=λx:UInt8=>[Value.int .u8 x.toNat]) (size:=1) (λ_=>rfl) Bv,rfl,by simp[Bv],by simp[maxLen],λ_=>⟨y.heap.size,0,_,_,_,rfl,Qb F,λd=>absurd (B _ d) (by omega),F,λj Q z=>by simpa using z⟩⟩;have q:=M4 E o p U (λk d=>Nat.lt_of_lt_of_le (B k d) r.size) a b 1048576 v42 0 [Kv] (t.bel r) m.2.2.2.2.2.2.1 (by omega) _ 3 Bv l m.2.1 (by rw[m.2.2.2.2.2.2.2.1];simp[Bv]) (by rw[m.2.2.2.2.2.2.2.2.1];omega) (by simp);rw[show Bv.length=3 from rfl]at q;obtain⟨J,aQ,aF⟩:=Zh3 q s (aE.trans r);clear M L A t B s r F l q H;go_wp2_with fail;rw[<-aQ.o];refine J.mono ?_;rintro e ay ⟨rfl,q,r,t,s,B⟩;obtain⟨aG,A⟩:=Zh2 (aF.of_kept s al.o) (show Lg (λk=>q k\/r k) q r ay a b 1048576 v43 0 [Kv,Bv] from t.mono (λk _ h=>.inr h) λk h=>h);clear t s B J;go_wp2_with fail;refine(Cz _ q ay (λk h=>h.elim (A.d.lt k) (A.l.lt k)) b 1048576 v43 A.d 0).mono ?_;rintro e w8 ⟨Y,bh,ao,rfl,s,H,B,t⟩;obtain⟨W,F,L,S,X,V⟩:=Qnz H;have i:=Qdw ao ao w8 s.lt Y 1048576 bh (s.mono (λk _ h=>.inr h) λk h=>h) F (by omega) (by omega);obtain⟨J,aH,aZ,M⟩:=Zh4 i t B (And.intro L S);clear s H B t F L S X V i K;go_wp2_with fail;refine J.mono ?_;rintro e ab ⟨ar,H,s,rfl,t,K,S,L⟩;have F:=aH.of_kept K aZ;obtain⟨aI,B,aV,aW⟩:=Zh4 (aG.trans F) (A.bel F) (show Kt (λk=>H k\/s k) s ab ar Y 0 (Kv::W) from(t.mono (λk _ h=>.inr h) λk h=>h).l) (show ∀k,H k\/s k->k<ab.heap.size fromλk h=>h.elim (t.d.lt k) (t.l.lt k));clear t K S L F J;go_wp2_with fail;refine(Cz _ q ab (λk h=>h.elim (B.d.lt k) (B.l.lt k)) b 1048576 v43 B.d 8).mono ?_;rintro e bi ⟨X,bg,an,rfl,t,p10,J,F⟩;obtain⟨V,K,q10,L,u10,t10⟩:=Qnz p10;have i:=Qdw an an bi t.lt X 1048576 bg (t.mono (λk _ h=>.inr h) λk h=>h) K (by omega) (by omega);obtain⟨af,az,aX,ac⟩:=Zh4 i F J (And.intro q10 L);clear t p10 J F K q10 L u10 t10 i;go_wp2_with fail;refine af.mono ?_;rintro e t ⟨au,F,i,rfl,L,ah,ak,aj⟩;have Z:=az.of_kept ah aX;obtain⟨aS,aU⟩:=Zh2 (show Kt (λk=>F k\/i k) i t au X 0 (Kv::V) from(L.mono (λk _ h=>.inr h) λk h=>h).l) (show ∀k,F k\/i k->k<t.heap.size fromλk h=>h.elim (L.d.lt k) (L.l.lt k));obtain⟨S,K⟩:=Zx (t.alloc (.cells #[.int .u8 97,.int .u8 98] 5 (2,3)));have J:=Zb K;have aa:S.heap[t.heap.size]?=some (.cells #[.int .u8 97,.int .u8 98] 5 (2,3)):=K▸heap_alloc_new _ _;have l:Rd Ql (λ_=>False) S (some ⟨t.heap.size,0,none⟩) 2 abL:=⟨[.int .u8 97,.int .u8 98],Ch.flat (f:=λx:UInt8=>[Value.int .u8 x.toNat]) (size:=1) (λ_=>rfl) abL,rfl,by simp[abL],by simp[maxLen],λ_=>⟨t.heap.size,0,_,_,_,rfl,Qb aa,λd=>d,aa,λj Q z=>by simpa using z⟩⟩;have d:=Qh2 (λ_=>False) S _ 2 abL l m.2.2.1;rw[show abL.length=2 from rfl,show 6+2=8 from rfl]at d;obtain⟨aM,aO,a8,Q,ae⟩:=Zh5 d K ((aI.trans Z).trans J) (Z.trans J) J;clear L ah ak aj Z K J aa l d af;go_wp2_with fail;rw[<-aO.o];refine aM.mono ?_;rintro e bj ⟨⟨be,bd,rfl,z⟩,l⟩;have d:=Qov (λ_=>False) bj (λ_ h=>h.elim) be bd (Z7 abL) (z.rd0);rw[aJ.o,show(Z7 abL).length=8 from rfl]at d;obtain⟨aL,a9⟩:=Zh2 d l;clear l d z;go_wp2_with fail;refine aL.mono ?_;rintro e bk ⟨⟨bo,bn,rfl,l⟩,d⟩;obtain⟨bb,aA⟩:=Zh2 l.rd0 (a9.trans d);clear d l ai;rw[show abL.length=2 from rfl];go_wp2_with fail;refine(Qyk bk).zR λaa l=>?_
 have d:=Zh (aA.trans l);obtain⟨aB,bc,aj,aY,z,ak,ba⟩:=Zh7 (a8.trans d.o) (bb.bel l) (aV.bel (Q.trans d.o)) (aS.bel (ae.trans d.o)) (B.bel (Q.trans d.o)) (show ∀k,H k\/s k->k<aa.heap.size fromλk h=>Nat.lt_of_lt_of_le (aW.o k h) (Q.trans d.o).size) (show ∀k,F k\/i k->k<aa.heap.size fromλk h=>Nat.lt_of_lt_of_le (aU.o k h) (ae.trans d.o).size);clear l;obtain⟨Z,J⟩:=Zx ((Kv::W).length);have bt:((Z:Nat):Int)>=1:=by rw[J];simp;omega
 have bu:(0:Int)<(Z:Int):=by omega
 have K:=λw h=>Lc (λk=>H k\/s k) s w h ar Y 0 (Kv::W)
 rw[<-J]at K;have ah:=Zh K;obtain⟨aq,l⟩:=Zx ((Kv::V).length);have bs:((aq:Nat):Int)>=1:=by rw[l];simp;omega
 have L:=λw h=>Lc (λk=>F k\/i k) i w h au X 0 (Kv::V)
 rw[<-l]at L;obtain⟨aK,ai,aR⟩:=Zh3 L (show Z<=1000000 by have:=M.1;rw[J];simp;omega) (show aq<=1000000 by have:=ac.1;rw[l];simp;omega);clear J l K L;go_wp2_with fail;refine(ah aa ak aj ai M.2).mono ?_;rintro e bl ⟨⟨b0,bx,rfl,-⟩,l⟩;have J:=Zh l;clear l;go_wp2_with fail;refine(ah bl (λk h=>Nat.lt_of_lt_of_le (ak k h) J.size) (aj.bel J) ai M.2).mono ?_;rintro e L ⟨⟨b1,bz,rfl,aa⟩,l⟩;have K:=Zh (J.trans l);obtain⟨g,off,br,bq,rfl,ap,c0,af⟩:=Md aa.rd0 (k:=0) (x:=Kv) rfl;rw[show Kv.length=3 from rfl,Nat.add_zero]at c0;have aw:(convert 179 9 (.slice br 3 bq)).run prog L=.ok (.string ⟨#[111,110,101]⟩) L:=Fy (P:=prog) 179 9 5 underlying179 underlying5 underlying9 af;clear l aa af;go_wp2_with fail;refine(aK L (λk h=>Nat.lt_of_lt_of_le (ba k h) K.size) (aY.bel K) aR ac.2).mono ?_;rintro e bm ⟨⟨no,b2,rfl,-⟩,aa⟩;have l:=Zh (K.trans aa);clear aa aw c0 ap;go_wp2_with fail;refine(Lc (λk=>q k\/r k) r bm (λk h=>h.elim (λh=>(z.bel l.o).d.lt k h) λh=>(z.bel l.o).l.lt k h) a b 0 [Kv,Bv] (z.bel l.o).l (by simp) (by simp[Kv,Bv])).mono ?_;rintro e aa ⟨⟨bw,bv,rfl,-⟩,ap⟩;have af:=Zh (l.trans ap);have bf:(convert 179 9 (.slice bo 2 bn)).run prog aa=.ok (.string ⟨#[97,98]⟩) aa:=Fy (P:=prog) 179 9 5 underlying179 underlying5 underlying9 (bc.bel af.o);have h:=Wd 7 (by omega) aa;rw[show((7:Nat):Int)=7 from rfl,show Qe 7=⟨#[108,111,103,48,48,55]⟩ from rfl]at h;have aN:=Zh h;clear ap h;rw[show [Kv,Bv].length=2 from rfl];go_wp2_with fail;refine aN.zR λaw ap=>?_
 have h:=Zh (af.trans ap);clear ap bf;go_wp2_with fail;refine(Qr3 (λk=>q k\/r k) r aw a b 0 [Kv,Bv] (z.bel h).l).zS ?_;go_wp2_with fail;refine(Qpc aw a).zR λap ap=>?_
 have aw:=Zh (h.trans ap);clear ap;go_wp2;go_ret;exact⟨rfl,aB.trans aw⟩
theorem Qym(w:World):Calls prog 216 #[] w λe w'=>e=.returned (.bool true)/\Bel w w':=by
 go_enter func216,ntmps216;go_wp2_with fail;refine(Qpd w).zR λa a=>?_
 have b:=Zh a;clear a;go_wp2;go_ret;exact⟨rfl,b⟩
end Go.Proofs.YtkdpmdfcdgphlaaGreat

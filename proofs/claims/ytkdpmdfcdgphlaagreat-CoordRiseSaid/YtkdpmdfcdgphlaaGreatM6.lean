/- Part of this claim's proof. Conditions: as its theorems say. -/
import Derived.Maps.RangeWalk
import Derived.Test.YtkdpmdfcdgphlaaGreatM5
set_option linter.all false
set_option maxHeartbeats 1000000
set_option maxRecDepth 100000
namespace Go.Mem
theorem Kept.onto{S T:Nat->Prop}{a b c:World}(h:Kept S a b)(k:Kept T b c)(f:∀i,T i->S i\/a.heap.size<=i):Kept S a c:=
 ⟨k.os.trans h.os,k.tape.trans h.tape,k.output.trans h.output,Nat.le_trans h.size k.size,λi d e=>(k.block i (Nat.lt_of_lt_of_le d h.size) λg=>(f i g).elim e λh=>by omega).trans (h.block i d e)⟩
end Go.Mem
namespace Go.Po
open Go.Mem
structure File where
 b:List UInt8
 sure:Nat
 named:Bool
abbrev Fs:=List (ByteArray×(Nat×File))
def view(fs:Fs):List (ByteArray×File):=fs.map λp=>(p.1,p.2.2)
def X6{α:Type}(k:ByteArray)(g:α->α)(l:List (ByteArray×α)):List (ByteArray×α):=l.map λp=>if p.1=k then (p.1,g p.2) else p
def used(v:List (ByteArray×File)):Nat:=(v.map λp=>p.2.b.length).sum
theorem Qd2{α a:Type}(g:α->a)(k:ByteArray)(v:α):∀l:List (ByteArray×α),(Yz k v l).map (λp=>(p.1,g p.2))=Yz k (g v) (l.map λp=>(p.1,g p.2))
 | []=>rfl
 | y::r=>by
  simp only[Yz,List.map_cons];split
  ·rfl
  ·rw[List.map_cons,Qd2 g k v r]
theorem Sv{α a:Type}(g:α->a)(k:ByteArray)(l:List (ByteArray×α)):(Qx k l).map (λp=>(p.1,g p.2))=Qx k (l.map λp=>(p.1,g p.2)):=by
 simp only[Qx,List.filter_map];rfl
theorem Qud{α a:Type}(g:α->a)(k:ByteArray)(l:List (ByteArray×α)):Qg k (l.map λp=>(p.1,g p.2))=(Qg k l).map g:=by
 unfold Qg;induction l with
 | nil=>rfl
 | cons y r ih=>
  simp only[List.map_cons,List.find?_cons];by_cases h:y.1=k
  ·simp[h]
  ·simp only[h,decide_false];exact ih
theorem Ui(k:ByteArray)(a:Fs):Qg k (view a)=(Qg k a).map (·.2):=Qud _ _ _
theorem Qkb(k:ByteArray)(a:Fs):view (Qx k a)=Qx k (view a):=Sv _ _ _
theorem Que(k:ByteArray)(x:Nat×File)(a:Fs):view (Jh k x a)=Jh k x.2 (view a):=by
 unfold Jh view;rw[Qd2,Sv]
theorem Qcl{k:ByteArray}{x:Nat×File}{a:Fs}(h:(k,x)∈a):x.2.b.length<=used (view a):=by
 induction a with
 | nil=>simp at h
 | cons y r ih=>
  simp only[used,view,List.map_cons,List.sum_cons]at ih ⊢;rcases List.mem_cons.1 h with h|h
  ·subst h;simp
  ·have:=ih h;omega
theorem Qd3{α:Type}{k:ByteArray}{v:α}{p:ByteArray×α}:∀{l:List (ByteArray×α)},p∈Yz k v l↔p=(k,v)\/p∈l
 | []=>by simp[Yz]
 | y::r=>by
  simp only[Yz];split
  ·simp
  ·simp only[List.mem_cons,Qd3 (l:=r)]
   constructor
   ·rintro (h|h|h)
    ·exact .inr (.inl h)
    ·exact .inl h
    ·exact .inr (.inr h)
   ·rintro (h|h|h)
    ·exact .inr (.inl h)
    ·exact .inl h
    ·exact .inr (.inr h)
theorem Vz{α:Type}{k:ByteArray}{p:ByteArray×α}{l:List (ByteArray×α)}:p∈Qx k l↔p∈l/\p.1≠k:=by
 simp[Qx]
theorem Ju{α:Type}{k:ByteArray}{v:α}{l:List (ByteArray×α)}(h:Qg k l=some v):(k,v)∈l:=by
 unfold Qg at h;rcases a:l.find? (λp=>decide (p.1=k))with _|p
 ·rw[a]at h;cases h
 ·rw[a]at h;cases h
  have b:=List.mem_of_find?_eq_some a;have c:p.1=k:=by simpa using List.find?_some a
  rw[<-c];exact b
end Go.Po
namespace Go.Proofs.YtkdpmdfcdgphlaaGreat
open Tryz
open Go.RowKit Go.Mem Go.Po Go.Maps Go.MapKept
def Y1(x:Nat×File):Value:=.pointer (some ⟨x.1,0,none⟩)
def Nz(A:Nat->Prop)(w:World)(e:Nat)(f:File):Prop:=
 ∃T ao cap,w.heap[e]?=some (.cells #[.slice ao f.b.length cap,.int .i64 f.sure,.bool f.named] T (0,0))/\Rd Ql A w ao cap f.b
structure Zk(A O:Nat->Prop)(w:World)(b:Nat)(room:Int)(mb:Nat)(fs:Fs):Prop where
 blk:∃T,w.heap[b]?=some (.cells #[.int .i64 room,.map (some mb)] T (0,0))
 mp:Mp prog 9 w mb (sL Y1 fs)
 ob:O b
 om:O mb
 ent:∀x∈fs,Nz A w x.2.1 x.2.2/\O x.2.1/\x.2.1≠b
 nd:(fs.map λx=>x.2.1).Nodup
 nm:(fs.map λx=>x.1).Nodup
 lt:∀k,O k->k<w.heap.size
 oa:∀k,O k->A k
 few:fs.length<=100000/\(∀x∈fs,x.1.size<=maxLen)/\used (view fs)<=1048576/\∀x∈fs,x.2.2.sure<=x.2.2.b.length
theorem Nz.keep{A B S:Nat->Prop}{w w':World}{e:Nat}{f:File}(h:Nz A w e f)(a:Kept S w w')(g:¬S e)(i:∀k,S k->A k)(d:∀k,k<w.heap.size->B k->A k):Nz B w' e f:=by
 obtain⟨T,ao,cap,b,c⟩:=h;exact⟨T,ao,cap,a.heap g b,c.keep a i d⟩
theorem Zk.keep{A B O S:Nat->Prop}{w w':World}{b:Nat}{l:Int}{f:Nat}{g:Fs}(h:Zk A O w b l f g)(a:Kept S w w')(d:∀k,O k->¬S k)(v:∀k,S k->A k)(s:∀k,k<w.heap.size->B k->A k)(t:∀k,O k->B k):Zk B O w' b l f g:=by
 obtain⟨⟨T,m⟩,o,i,j,c,p,q,r,y,n⟩:=h;exact⟨⟨T,a.heap (d b i) m⟩,o.kept a (d f j),i,j,λx e=>⟨(c x e).1.keep a (d _ (c x e).2.1) v s,(c x e).2⟩,p,q,λk h=>Nat.lt_of_lt_of_le (r k h) a.size,t,n⟩
theorem Zk.bel{A O:Nat->Prop}{w w':World}{b:Nat}{d:Int}{c:Nat}{a:Fs}(h:Zk A O w b d c a)(e:Bel w w'):Zk A O w' b d c a:=
 h.keep (e.kept λ_=>False) (λ_ _ h=>h) (λ_ h=>h.elim) (λ_ _ h=>h) h.oa
theorem Qgm{s:ByteArray}(a:s.size<=maxLen):keyOf prog 9 (.string s)=some (.string s.data.toList):=Go.WideMaps.keyOf_string_mk underlying9 a
theorem G6:Keyed prog 9:=string_keyed underlying9
theorem Zk.look{A O:Nat->Prop}{w:World}{b:Nat}{e:Int}{c:Nat}{a:Fs}(h:Zk A O w b e c a){s:ByteArray}(d:s.size<=maxLen):
 (Instr.lookup 174 (.map (some c)) (.string s) false).run prog w=.ok (.pointer ((Qg s a).map λx=>⟨x.1,0,none⟩)) w:=by
 have:=h.mp.look G6 underlying174 (zeroValue194 w) rfl (Qgm d);rw[this,Lp];cases Qg s a<;>rfl
theorem Uu(s:ByteArray)(d:s.size<=maxLen)(A O:Nat->Prop)(w:World)(b:Nat)(g:Int)(f:Nat)(a:Fs)(h:Zk A O w b g f a):
 Calls prog 167 #[.pointer (some ⟨b,0,none⟩),.string s] w λe w'=>e=.returned (.pointer ((Qg s a).map λx=>⟨x.1,0,none⟩))/\w=w':=by
 obtain⟨T,c⟩:=h.blk;have c1:=cell_of_block c 1 _ rfl;have i:=h.look d;clear c h;go_enter func167,ntmps167;go_wp2;go_ret;exact⟨rfl,rfl⟩
theorem Quf(s:ByteArray)(i:s.size<=maxLen)(A O:Nat->Prop)(w:World)(b:Nat)(f:Int)(d:Nat)(a:Fs)(h:Zk A O w b f d a)(c:Qg s a=none):
 Calls prog 99 #[.pointer (some ⟨b,0,none⟩),.string s] w λe w'=>e=.returned (.tuple #[.slice none 0 0,.bool false])/\w=w':=by
 obtain⟨H,g⟩:=Zh2 h c;clear h c;go_enter func99,ntmps99;go_wp2_with fail;refine(Uu s i A O w b f d a H).mono ?_;rw[g.o];rintro e c ⟨rfl,rfl⟩;go_wp2;go_ret2;exact⟨rfl,rfl⟩
theorem Qrm(s:ByteArray)(C:s.size<=maxLen)(A O:Nat->Prop)(w:World)(B:∀k,A k->k<w.heap.size)(b:Nat)(j:Int)(i:Nat)(c:Fs)(h:Zk A O w b j i c)(n:Nat)(f:File)(a:Qg s c=some (n,f)):
 Calls prog 99 #[.pointer (some ⟨b,0,none⟩),.string s] w λe w'=>(∃ao cap,e=.returned (.tuple #[.slice ao f.b.length cap,.bool true])/\Rd Ql A w' ao cap f.b)/\Bel w w':=by
 obtain⟨H,m⟩:=Zh2 h a;obtain⟨⟨T,y,x,d,g⟩,_,_⟩:=h.ent _ (Ju a);have c0:∀o,(w.alloc o).cell? ⟨n,0,none⟩=some (.slice y f.b.length x):=λo=>((Bel.refl w).alloc o).cell (cell_of_block d 0 _ rfl)
 have D:f.b.length<=1048576:=by have z:=Qcl (Ju a);have:=h.few.2.2.1;dsimp only at z;omega
 clear h a;go_enter func99,ntmps99;go_wp2_with fail;refine(Uu s C A O w b j i c H).mono ?_;rw[m.o];rintro e E ⟨rfl,rfl⟩;have p:=Zh g;clear g d;obtain⟨xs,a,d⟩:=(p.bel ((Bel.refl w).alloc (.cells #[] 5))).src (P:=prog) underlying179;obtain⟨q,l⟩:=Zh2 d a;clear d a;go_wp2_with(at_builtin;go_must (refine Ja (r:=Ql) (A:=A) (w0:=w) _ rfl _ _ 179 179 rfl Vn (some ⟨w.heap.size,0,none⟩) 0 [] (Own.empty _ _ _ _ _ _) rfl _ rfl f.b xs (l.mono λ_ _ _ h=>h) q.o (by simp;omega) (by omega) ((Bel.refl w).alloc _) ?_);intro t v F a _ d _;have o:=Zh a;have g:=Zh d;clear a d);go_ret2;exact⟨⟨t,v,rfl,by have:=o.o;rw[List.nil_append]at this;exact this.rd λk h=>B k h⟩,g.o⟩
theorem Qhk(s:ByteArray)(i:s.size<=maxLen)(A O:Nat->Prop)(w:World)(b:Nat)(f:Int)(d:Nat)(a:Fs)(h:Zk A O w b f d a)(c:Qg s a=none):
 Calls prog 97 #[.pointer (some ⟨b,0,none⟩),.string s] w λe w'=>e=.returned (.int .i64 6)/\w=w':=by
 obtain⟨H,g⟩:=Zh2 h c;clear h c;go_enter func97,ntmps97;go_wp2_with fail;refine(Uu s i A O w b f d a H).mono ?_;rw[g.o];rintro e c ⟨rfl,rfl⟩;go_wp2;go_ret;exact⟨rfl,rfl⟩
theorem Qhl{α b:Type}{f:α->b}{l m:List α}(h:(l.map f).Nodup)(a:m.Sublist l):(m.map f).Nodup:=h.sublist (a.map f)
theorem Qd4{l m:List (ByteArray×File)}(h:m.Sublist l):used m<=used l:=by
 induction h with
 | slnil=>exact Nat.le_refl _
 | cons a _ ih=>simp only[used,List.map_cons,List.sum_cons]at ih ⊢;omega
 | cons_cons a _ ih=>simp only[used,List.map_cons,List.sum_cons]at ih ⊢;omega
theorem Bb{α:Type}(k:ByteArray)(l:List (ByteArray×α)):(Qx k l).Sublist l:=List.filter_sublist
theorem Zk.deleted{A O:Nat->Prop}{w w':World}{b:Nat}{r:Int}{d:Nat}{f:Fs}(h:Zk A O w b r d f)(s:ByteArray)(H:Mp prog 9 w' d (sL Y1 (Qx s f)))(j:Kept (λk=>k=d) w w'):Zk A O w' b r d (Qx s f):=by
 obtain⟨⟨T,n⟩,o,B,p,C,D,E,F,q,g⟩:=h;have G:b≠d:=λe=>by
  subst e;obtain⟨v,t,i,_⟩:=o.1;rw[n]at i;cases i
 have a:=Bb s f;refine⟨⟨T,j.heap G n⟩,H,B,p,λx c=>?_,Qhl D a,Qhl E a,λk h=>Nat.lt_of_lt_of_le (F k h) j.size,q,?_⟩
 ·obtain⟨l,y,z⟩:=C x (a.subset c)
  refine⟨l.keep j (λe=>?_) (λk h=>h▸q _ p) λ_ _ h=>h,y,z⟩;obtain⟨_,_,_,m,_⟩:=l;obtain⟨v,t,i,_⟩:=o.1;rw[e,i]at m;cases m
 ·refine⟨Nat.le_trans a.length_le g.1,λx c=>g.2.1 x (a.subset c),Nat.le_trans (Qd4 (a.map _)) g.2.2.1,λx c=>g.2.2.2 x (a.subset c)⟩
theorem Qpv(s:ByteArray)(m:s.size<=maxLen)(A O:Nat->Prop)(w:World)(b:Nat)(f:Int)(d:Nat)(a:Fs)(h:Zk A O w b f d a)(x:Nat×File)(l:Qg s a=some x):
 Calls prog 97 #[.pointer (some ⟨b,0,none⟩),.string s] w λe w'=>e=.returned (.int .i64 0)/\Zk A O w' b f d (Qx s a)/\Kept O w w':=by
 obtain⟨H,o⟩:=Zh2 h l;obtain⟨T,i⟩:=h.blk;have c1:=cell_of_block i 1 _ rfl;obtain⟨q,p,c,j⟩:=h.mp.del G6 underlying174 (Qgm m) 0;rw[Lm]at c;obtain⟨n,g⟩:=Zh2 c j;clear h l i c j;go_enter func97,ntmps97;go_wp2_with fail;refine(Uu s m A O w b f d a H).mono ?_;rw[o.o];rintro e c ⟨rfl,rfl⟩;go_wp2;go_ret;exact⟨rfl,H.deleted s n.o g.o,g.mono λk _ h=>h▸H.om⟩
theorem Qug{α a:Type}(g:α->a)(p:α->α)(q:a->a)(b:∀x,g (p x)=q (g x))(k:ByteArray)(l:List (ByteArray×α)):(X6 k p l).map (λx=>(x.1,g x.2))=X6 k q (l.map λx=>(x.1,g x.2)):=by
 simp only[X6,List.map_map];apply List.map_congr_left;intro x _;simp only[Function.comp];split
 ·rw[b]
 ·rfl
theorem Qd5{α:Type}{k:ByteArray}{p:α->α}{l:List (ByteArray×α)}{y:ByteArray×α}(h:y∈X6 k p l):∃x∈l,y.1=x.1/\y.2=if x.1=k then p x.2 else x.2:=by
 simp only[X6,List.mem_map]at h;obtain⟨x,a,rfl⟩:=h;refine⟨x,a,?_,?_⟩<;>split<;>rfl
theorem Qd6(k:ByteArray)(p:File->File)(a:Fs):view (X6 k (λx=>(x.1,p x.2)) a)=X6 k p (view a):=Qug (λx:Nat×File=>x.2) (λx=>(x.1,p x.2)) p (λ_=>rfl) k a
theorem Qy1(k:ByteArray)(p:File->File)(a:Fs):sL Y1 (X6 k (λx=>(x.1,p x.2)) a)=sL Y1 a:=by
 simp only[sL,X6,List.map_map];apply List.map_congr_left;intro x _;simp only[Function.comp];split<;>rfl
theorem Quh{c:Fs}(h:(c.map λx=>x.2.1).Nodup){x y:ByteArray×(Nat×File)}(a:x∈c)(b:y∈c)(d:x.2.1=y.2.1):x=y:=by
 induction c with
 | nil=>simp at a
 | cons z r ih=>
  simp only[List.map_cons,List.nodup_cons]at h;rcases List.mem_cons.1 a with a|a<;>rcases List.mem_cons.1 b with b|b
  ·rw[a,b]
  ·exact absurd (List.mem_map.2 ⟨y,b,by rw[<-d,a]⟩) h.1
  ·exact absurd (List.mem_map.2 ⟨x,a,by rw[d,b]⟩) h.1
  ·exact ih h.2 a b
theorem Qoc{c:Fs}(h:(c.map λx=>x.1).Nodup){x y:ByteArray×(Nat×File)}(a:x∈c)(b:y∈c)(d:x.1=y.1):x=y:=by
 induction c with
 | nil=>simp at a
 | cons z r ih=>
  simp only[List.map_cons,List.nodup_cons]at h;rcases List.mem_cons.1 a with a|a<;>rcases List.mem_cons.1 b with b|b
  ·rw[a,b]
  ·exact absurd (List.mem_map.2 ⟨y,b,by rw[<-d,a]⟩) h.1
  ·exact absurd (List.mem_map.2 ⟨x,a,by rw[d,b]⟩) h.1
  ·exact ih h.2 a b
theorem Zk.updated{A O:Nat->Prop}{w w':World}{b:Nat}{D:Int}{v:Nat}{a:Fs}(h:Zk A O w b D v a){s:ByteArray}{n:Nat}{f:File}(N:Qg s a=some (n,f))(p:File->File)(m:Kept (λk=>k=n) w w')(L:Nz A w' n (p f))(R:used (X6 s p (view a))<=1048576)(Q:(p f).sure<=(p f).b.length):
 Zk A O w' b D v (X6 s (λx=>(x.1,p x.2)) a):=by
 have i:=Ju N;have P:=Qy1 s p a;have S:=Qd6 s p a;obtain⟨⟨T,H⟩,z,I,J,j,B,q,K,C,r⟩:=h;have M:v≠n:=λe=>by
  obtain⟨⟨_,_,_,c,_⟩,_⟩:=j _ i;obtain⟨l,g,d,_⟩:=z.1;rw[e]at d;rw[show((s,n,f):ByteArray×(Nat×File)).2.1=n from rfl,d]at c;cases c
 refine⟨⟨T,m.heap (λe=>(j _ i).2.2 e.symm) H⟩,by rw[P];exact z.kept m M,I,J,λy l=>?_,?_,?_,λk h=>Nat.lt_of_lt_of_le (K k h) m.size,C,?_⟩
 ·obtain⟨x,d,o,c⟩:=Qd5 l
  by_cases g:x.1=s
  ·have t:x=(s,n,f):=Qoc q d i g
   rw[if_pos g,t]at c;rw[c];exact⟨L,(j _ i).2⟩
  ·rw[if_neg g]at c
   rw[c];obtain⟨E,F,G⟩:=j x d;refine⟨E.keep m (λe=>g ?_) (λk h=>h▸C _ (j _ i).2.1) λ_ _ h=>h,F,G⟩;have:=Quh B d i e;rw[this]
 ·have:(X6 s (λx=>(x.1,p x.2)) a).map (λx=>x.2.1)=a.map λx=>x.2.1:=by
   simp only[X6,List.map_map];apply List.map_congr_left;intro x _;simp only[Function.comp];split<;>rfl
  rw[this];exact B
 ·have:(X6 s (λx=>(x.1,p x.2)) a).map (λx=>x.1)=a.map λx=>x.1:=by
   simp only[X6,List.map_map];apply List.map_congr_left;intro x _;simp only[Function.comp];split<;>rfl
  rw[this];exact q
 ·refine⟨by simp only[X6,List.length_map];exact r.1,λy l=>?_,by rw[S];exact R,λy l=>?_⟩
  ·obtain⟨x,d,o,_⟩:=Qd5 l
   rw[o];exact r.2.1 x d
  ·obtain⟨x,d,o,c⟩:=Qd5 l
   by_cases g:x.1=s
   ·have t:x=(s,n,f):=Qoc q d i g
    rw[if_pos g,t]at c;rw[c];exact Q
   ·rw[if_neg g]at c
    rw[c];exact r.2.2.2 x d
theorem Ht{s:ByteArray}{p:File->File}(a:∀f,(p f).b=f.b)(v:List (ByteArray×File)):used (X6 s p v)=used v:=by
 simp only[used,X6,List.map_map];congr 1
 apply List.map_congr_left;intro x _;simp only[Function.comp];split
 ·rw[a]
 ·rfl
def synced(f:File):File:=⟨f.b,f.b.length,true⟩
theorem Qxl(s:ByteArray)(i:s.size<=maxLen)(A O:Nat->Prop)(w:World)(b:Nat)(f:Int)(d:Nat)(a:Fs)(h:Zk A O w b f d a)(c:Qg s a=none):
 Calls prog 261 #[.pointer (some ⟨b,0,none⟩),.string s] w λe w'=>e=.returned (.int .i64 6)/\w=w':=by
 obtain⟨H,g⟩:=Zh2 h c;clear h c;go_enter func261,ntmps261;go_wp2_with fail;refine(Uu s i A O w b f d a H).mono ?_;rw[g.o];rintro e c ⟨rfl,rfl⟩;go_wp2;go_ret;exact⟨rfl,rfl⟩
theorem Qui(s:ByteArray)(v:s.size<=maxLen)(A O:Nat->Prop)(w:World)(b:Nat)(i:Int)(g:Nat)(c:Fs)(h:Zk A O w b i g c)(n:Nat)(f:File)(d:Qg s c=some (n,f)):
 Calls prog 261 #[.pointer (some ⟨b,0,none⟩),.string s] w λe w'=>e=.returned (.int .i64 0)/\Zk A O w' b i g (X6 s (λx=>(x.1,synced x.2)) c)/\Kept O w w':=by
 obtain⟨H,j⟩:=Zh2 h d;obtain⟨⟨T,t,r,a,m⟩,l,_⟩:=h.ent _ (Ju d);have c0:=cell_of_block a 0 _ rfl;have c1:=cell_of_block a 1 _ rfl;have c2:=cell_of_block a 2 _ rfl;have y:=Qa a;obtain⟨o,q⟩:=Zh2 a m;clear h d a m;go_enter func261,ntmps261;go_wp2_with fail;refine(Uu s v A O w b i g c H).mono ?_;rw[j.o];rintro e d ⟨rfl,rfl⟩;go_wp2;go_ret;have a:Kept (λk=>k=n) w ((w.setCell ⟨n,1,none⟩ (.int .i64 f.b.length)).setCell ⟨n,2,none⟩ (.bool true)):=((Kept.refl (λk=>k=n) w).setCell (p:=⟨n,1,none⟩) rfl _).setCell (p:=⟨n,2,none⟩) rfl _;refine⟨rfl,H.updated j.o synced a ⟨T,t,r,?_,q.keep a (λk h=>h▸H.oa _ l) λ_ _ h=>h⟩ ?_ (Nat.le_refl _),a.mono λk _ h=>h▸l⟩
 ·rw[Go.Mem.heap_setCell_same _ n 2 _ _ T (0,0) (Go.Mem.heap_setCell_same w n 1 _ _ T (0,0) o.o)]
  simp[synced]
 ·rw[Ht (p:=synced) λ_=>rfl];exact H.few.2.2.1
theorem Quj(s:ByteArray)(l:s.size<=maxLen)(A O:Nat->Prop)(w:World)(b:Nat)(i:Int)(g:Nat)(a:Fs)(h:Zk A O w b i g a)(n:Nat)(f:File)(c:Qg s a=some (n,f)):
 Calls prog 454 #[.pointer (some ⟨b,0,none⟩),.string s] w λe w'=>e=.returned (.int .i64 f.sure)/\w=w':=by
 obtain⟨H,j⟩:=Zh2 h c;obtain⟨⟨T,o,m,d,k⟩,p,_⟩:=h.ent _ (Ju c);have c1:=cell_of_block d 1 _ rfl;clear h c d k;go_enter func454,ntmps454;go_wp2_with fail;refine(Uu s l A O w b i g a H).mono ?_;rw[j.o];rintro e c ⟨rfl,rfl⟩;go_wp2;go_ret;exact⟨rfl,rfl⟩
theorem Qrn(A O:Nat->Prop)(w:World)(b:Nat)(s:Int)(f:Nat)(a:Fs)(h:Zk A O w b s f a):
 Calls prog 385 #[.pointer (some ⟨b,0,none⟩)] w λe w'=>∃ao cap d,e=.returned (.slice ao a.length cap)/\Own Xk A w w' 9 ao cap d/\d.Perm (a.map (·.1))/\Bel w w':=by
 obtain⟨T,c⟩:=h.blk;have c1:=cell_of_block c 1 _ rfl;obtain⟨n,m⟩:=Zh2 h.mp h.few.1;clear h c;go_enter func385,ntmps385;go_wp2_with fail;refine(Qsw (some f) w).zR λg c=>?_
 obtain⟨h,j⟩:=Zh2 (show Bel w g from c▸(Bel.refl w).alloc _) (show g.cell? ⟨w.heap.size,0,none⟩=some (.map (some f)) by rw[c];simp);have q:w.heap.size<g.heap.size:=by rw[c];simp
 clear c;go_wp2_with fail;refine(Qns Y1 a A g f w.heap.size q j.o (n.bel h.o) (by have:=m.o;omega)).mono ?_;rintro e t ⟨ao,cap,d,rfl,g,i,c⟩;obtain⟨o,p,l⟩:=Zh3 g i c;clear g i c;go_wp2;go_ret;obtain⟨xs,g,i,r⟩:=o.o;exact⟨ao,cap,d,rfl,⟨xs,g,i,λk c=>Nat.le_trans h.size (r k c)⟩,p,h.trans l⟩
def lenOf(fs:Fs)(k:ByteArray):Nat:=((Qg k fs).map λx=>x.2.b.length).getD 0
theorem Gf{α:Type}{l:List (ByteArray×α)}(h:(l.map λx=>x.1).Nodup){x:ByteArray×α}(a:x∈l):Qg x.1 l=some x.2:=by
 induction l with
 | nil=>simp at a
 | cons z r ih=>
  simp only[List.map_cons,List.nodup_cons]at h;rcases List.mem_cons.1 a with a|a
  ·rw[a];simp[Qg]
  ·have b:z.1≠x.1:=λe=>h.1 (List.mem_map.2 ⟨x,a,e.symm⟩)
   have:=ih h.2 a;simpa[Qg,List.find?_cons,b] using this
theorem Mi{α:Type}{l m:List α}(h:l.Perm m)(f:α->Nat):(l.map f).sum=(m.map f).sum:=by
 induction h with
 | nil=>rfl
 | cons x _ ih=>simp only[List.map_cons,List.sum_cons,ih]
 | swap x y l=>simp only[List.map_cons,List.sum_cons];omega
 | trans _ _ a b=>exact a.trans b
theorem Quk{a:Fs}{b:List ByteArray}(d:b.Perm (a.map (·.1)))(c:(a.map λx=>x.1).Nodup):(b.map (lenOf a)).sum=used (view a):=by
 rw[Mi d,List.map_map,used,view,List.map_map];congr 1
 apply List.map_congr_left;intro x e;simp only[Function.comp,lenOf,Gf c e];rfl
theorem Qm5(l:List Nat):∀k,(l.take k).sum<=l.sum:=by
 induction l with
 | nil=>intro k;simp
 | cons x l ih=>
  intro k;rcases k with _|k
  ·simp
  ·have:=ih k;simp;omega
theorem Qd7(A O:Nat->Prop)(w:World)(b:Nat)(z:Int)(t:Nat)(a:Fs)(h:Zk A O w b z t a):
 Calls prog 322 #[.pointer (some ⟨b,0,none⟩)] w λe w'=>e=.returned (.int .i64 (used (view a)))/\Bel w w':=by
 have H:=Zh h;clear h;go_enter func322,ntmps322;go_wp2_with fail;refine(Qrn A O w b z t a H).mono ?_;rintro e X ⟨ao,cap,c,rfl,m,h,f⟩;have B:=Zh f;have d:c.length=a.length:=by rw[h.length_eq,List.length_map]
 obtain⟨C,p,j⟩:=Zh3 m.rd0 h (H.bel f);obtain⟨T,l⟩:=j.blk;have K:=cell_of_block l 1 _ rfl;obtain⟨n,g⟩:=Zx a.length;rw[<-g]at d ⊢;have o:=Zh d;have V:n<=100000:=by rw[g];exact H.few.1
 clear m h f d g l;go_wp2;go_loop [3,5,9] (λv _ i=>∃k:Nat,k<=n/\i=.int .i64 k/\v=.int .i64 ((((c.map (lenOf a)).take k).sum:Nat):Int)) (λ_ _ i=>n-(intOf i).toNat)
 case atStart=>exact⟨0,Nat.zero_le _,rfl,rfl⟩
 case round=>
  obtain⟨k,R,rfl,rfl⟩:=hrel;have f:=Quk p H.nm;have G:=Qm5 (c.map (lenOf a)) k;have U:=H.few.2.2.1;rw[f]at G;have D:=Zh f;clear f;by_cases S:k<n
  ·have d:k<c.length:=by have:=o.o;omega
   obtain⟨x,f⟩:∃x,c[k]?=some x:=⟨c[k],by simp[d]⟩;obtain⟨P,off,rfl,Q,c0⟩:=Qrf C.o f;have s:=p.subset (List.mem_of_getElem? f);obtain⟨y,g,m⟩:=List.mem_map.1 s;have l:Qg x a=some y.2:=by rw[<-m];exact Gf H.nm g
   have r:x.size<=maxLen:=by rw[<-m];exact H.few.2.1 y g
   have F:=j.look r;rw[l]at F;obtain⟨⟨J,N,M,q,W⟩,_,_⟩:=j.ent _ g;have L:=cell_of_block q 0 _ rfl;have h:Hid (((c.map (lenOf a)).take (k+1)).sum=((c.map (lenOf a)).take k).sum+y.2.2.b.length):=Zh (by
    have E:k<(c.map (lenOf a)).length:=by simpa using d
    rw[List.take_succ_eq_append_getElem E,List.sum_append];rw[List.getElem?_eq_getElem d]at f;have I:=Option.some.inj f;have:lenOf a x=y.2.2.b.length:=by simp[lenOf,l]
    simp[I,this])
   have E:=Qcl (show(y.1,y.2)∈a from g);clear f d s m l r q;go_wp2;go_round
   case rel=>exact⟨k+1,by omega,by go_num,by rw[h.o];go_num⟩
   case measure=>simp[intOf];omega
  ·have d:k=n:=by omega
   subst d;have f:¬(k:Int)<(k:Int):=by omega
   have h:Hid (((c.map (lenOf a)).take k).sum=used (view a)):=Zh (by
    rw[List.take_of_length_le (by have:=o.o;simp;omega)];exact D.o)
   go_wp2;go_ret;exact⟨by rw[<-h.o];rfl,B.o⟩
theorem Qro{α:Type}{r:Rp α}{A:Nat->Prop}{w:World}(f:∀k,A k->k<w.heap.size){l1 a:List α}{a1 a2:Option Addr}{c1 c2:Nat}(d:Rd r A w a1 c1 l1)(e:Rd r A w a2 c2 a)(T:TypeId):
 Rd r.list A (w.alloc (.cells #[.slice a1 l1.length c1,.slice a2 a.length c2] T)) (some ⟨w.heap.size,0,none⟩) 2 [l1,a]:=by
 have c:=(Bel.refl w).alloc (.cells #[.slice a1 l1.length c1,.slice a2 a.length c2] T);refine⟨[.slice a1 l1.length c1]++([.slice a2 a.length c2]++[]),.cons ⟨a1,c1,rfl,d.bel c⟩ rfl (.cons ⟨a2,c2,rfl,e.bel c⟩ rfl .nil),rfl,Nat.le_refl _,by simp[maxLen],λ_=>⟨w.heap.size,0,_,_,_,rfl,by simp,λh=>by have:=f _ h;omega,heap_alloc_new w _,λj b b=>?_⟩⟩;rcases j with _|_|j
 ·simpa using b
 ·simpa using b
 ·simp at b
theorem Qm6(s:ByteArray)(a:Jb s=false)(f:s.size<=maxLen)(w:World)(b:Nat)(v:Value):
 Calls prog 236 #[.pointer (some ⟨b,0,none⟩),.string s,v] w λe w'=>e=.returned (.int .i64 1)/\Bel w w':=by
 have d:=Zh a;clear a;go_enter func236,ntmps236;go_wp2_with fail;refine(Tc s f w).mono ?_;rw[d.o];rintro e g ⟨rfl,a⟩;have c:=Zh a;clear a;go_wp2;go_ret;exact⟨rfl,c⟩
def more(bs:List UInt8)(f:File):File:=⟨f.b++bs,f.sure,f.named⟩
theorem Py{s:ByteArray}{bs:List UInt8}:∀{v:List (ByteArray×File)},(v.map λx=>x.1).Nodup->used (X6 s (more bs) v)<=used v+bs.length
 | [],_=>Nat.zero_le _
 | y::r,h=>by
  simp only[List.map_cons,List.nodup_cons]at h;have ih:=Py (s:=s) (bs:=bs) h.2;simp only[used,X6,List.map_cons,List.sum_cons]at ih ⊢;split
  ·rename_i a
   have:(r.map λp=>if p.1=s then (p.1,more bs p.2) else p)=r:=by
    rw[List.map_congr_left (g:=id),List.map_id];intro x b;rw[if_neg];rfl;intro e;exact h.1 (List.mem_map.2 ⟨x,b,by rw[e,a]⟩)
   rw[this];simp only[more,List.length_append];omega
  ·omega
theorem Qxm(a:Fs):(view a).map (λx=>x.1)=a.map λx=>x.1:=by simp[view]
theorem appends:(∀(s:ByteArray) (q:Jb s=true) (y:s.size<=maxLen) (A O:Nat->Prop) (w:World) (b:Nat) (a:Int) (j:Nat) (c:Fs) (h:Zk A O w b a j c) (o:0<=a/\a<=1048576) (i:Option Addr) (g:Nat) (bs:List UInt8) (E:bs.length<=1048576) (d:a<(used (view c):Int)+(bs.length:Int)),Calls prog 236 #[.pointer (some ⟨b,0,none⟩),.string s,.slice i bs.length g] w λe w'=>e=.returned (.int .i64 5)/\Bel w w') ∧
 (∀(s:ByteArray) (q:Jb s=true) (y:s.size<=maxLen) (A O:Nat->Prop) (w:World) (D:∀k,A k->k<w.heap.size) (b:Nat) (a:Int) (j:Nat) (c:Fs) (h:Zk A O w b a j c) (o:0<=a/\a<=1048576) (i:Option Addr) (g:Nat) (bs:List UInt8) (F:Rd Ql A w i g bs) (d:(used (view c):Int)+(bs.length:Int)<=a) (n:Nat) (f:File) (G:Qg s c=some (n,f)),Calls prog 236 #[.pointer (some ⟨b,0,none⟩),.string s,.slice i bs.length g] w λe w'=>e=.returned (.int .i64 0)/\Zk A O w' b a j (X6 s (λx=>(x.1,more bs x.2)) c)/\Kept O w w'):=by
 refine⟨have k1:=trivial;?_,have k2:=trivial;?_⟩;all_goals
  first|(have k2:=k2;intro s q y A O w D b a j c h o i g bs F d n f G)|(intro s q y A O w b a j c h o i g bs E d)
  obtain⟨X,H⟩:=Zh2 q h;first
   | (have k2:=k2
      obtain⟨t,S,K,J⟩:=Zh4 G F d D;have L:=Zh o.2)
   | (skip)
  obtain⟨T,l⟩:=h.blk;have c0:=cell_of_block l 0 _ rfl;have I:=h.few.2.2.1;obtain⟨C,B⟩:=Zx (used (view c));obtain⟨m,z⟩:=Zx bs.length;rw[<-B]at I d;first|(have k2:=k2;rw[<-z]at d ⊢)|(rw[<-z]at E d ⊢)
  have Y:=Zh B;first|(have k2:=k2;have U:=Zh z)|(skip)
  have ad:IntKind.i64.wrap (a-(C:Int))=a-C:=by rw[IntKind.wrap_i64];omega
  first|(have k2:=k2;have aa:¬((m:Int)>a-C):=by omega)|(have aa:((m:Int)>a-C):=by omega)
  first|(have k2:=k2;clear q h l B z d I o G F D)|(clear q h l B z d I E o)
  go_enter func236,ntmps236;go_wp2_with fail;refine(Tc s y w).mono ?_;rw[X.o];rintro e ae ⟨rfl,l⟩;have q:=Zh l;have E:=l.cell c0;clear l;go_wp2_with fail;go_region_held3 (λw'=>w'.cell? ⟨b,0,none⟩=some (.int .i64 a))
   (first|go_keep|exact D)
   ((go_at_call 322;refine(Qd7 A O _ b a j c (H.bel q.drew)).mono ?_;rw[<-Y.o];rintro e l ⟨rfl,o⟩;have D:=o.cell (q.drew.cell c0);have d:=Zh (q.drew.trans o);clear o))
  first
   | (have k2:=k2
      go_wp2_with fail;refine(Uu s y A O l b a j c (H.bel d)).mono ?_;rw[t.o];rintro e af ⟨rfl,rfl⟩;obtain⟨⟨G,P,N,o,B⟩,z,_⟩:=(H.bel d.o).ent _ (Ju t.o);have e0:=cell_of_block o 0 _ rfl;obtain⟨F,R,W⟩:=Zh3 z o B;clear z o B E D;go_wp2_with fail;have B:=Qro (r:=Ql) (A:=A) (w:=l) (λk h=>Nat.lt_of_lt_of_le (J k h) d.size) W (S.bel d) 179;rw[<-U.o]at B;refine(Qc2 A _ _ 2 [f.b,bs] B (by have Z:=Qcl (Ju t.o);dsimp only at Z;have:=H.few.2.2.1;have:=K.o;have:=L.o;simp;omega)).mono ?_;rintro e o ⟨⟨M,I,rfl,Q⟩,z⟩;have ab:=z.cell (((Bel.refl l).alloc (.cells #[Value.slice P f.b.length N,Value.slice i m g] 179)).cell e0);obtain⟨V,D⟩:=Zh2 Q (((Bel.refl l).alloc (.cells #[Value.slice P f.b.length N,Value.slice i m g] 179)).trans z);have E:=Zh (D.heap R);have ac:=Qa E 0;clear Q z B)
   | (skip)
  go_wp2;go_ret;first
   | (have k2:=k2
      have l:Kept (λk=>k=n) o (o.setCell ⟨n,0,none⟩ (.slice M (f.b.length+bs.length) I)):=(Kept.refl (λk=>k=n) o).setCell (p:=⟨n,0,none⟩) rfl _;have z:=d.trans D;have P:[f.b,bs].flatten=(more bs f).b:=by simp[more]
      have N:(more bs f).b.length=f.b.length+bs.length:=by simp[more]
      have B:=V.rd λk l=>Nat.lt_of_lt_of_le (J.o k l) (Nat.le_trans d.size (by simp))
      rw[P]at B;refine⟨rfl,(H.bel z).updated t.o (more bs) l ⟨G,M,I,?_,B.keep l (λk h=>h▸H.oa _ F.o) λ_ _ h=>h⟩ ?_ ?_,(z.kept O).trans (l.mono λk _ h=>h▸F.o)⟩
      ·rw[N,Go.Mem.heap_setCell_same o n 0 _ _ G (0,0) E.o];simp[more]
      ·have:=Py (s:=s) (bs:=bs) (v:=view c) (by rw[Qxm];exact H.nm)
       have:=K.o;have:=L.o;omega
      ·have:=H.few.2.2.2 _ (Ju t.o)
       rw[N];dsimp only[more]at this ⊢;omega)
   | (exact⟨rfl,d.o⟩)
def Qm7:=appends.1
def Qpw:=appends.2
theorem Da{α:Type}(k:ByteArray)(v:α):∀l:List (ByteArray×α),(Yz k v l).Perm ((k,v)::l)
 | []=>.refl _
 | y::r=>by
  simp only[Yz];split
  ·exact .refl _
  ·exact((Da k v r).cons y).trans (.swap _ _ _)
theorem Ym{α:Type}{k:ByteArray}{l:List (ByteArray×α)}(h:Qg k l=none):Qx k l=l:=by
 unfold Qg at h;rw[Option.map_eq_none_iff,List.find?_eq_none]at h;exact List.filter_eq_self.2 λx a=>by simpa using h x a
theorem Qbh{α:Type}{k:ByteArray}{l:List (ByteArray×α)}(h:Qg k l=none)(v:α):(Jh k v l).Perm ((k,v)::l):=by
 rw[Jh,Ym h];exact Da k v l
theorem H9{α:Type}{k:ByteArray}{l:List (ByteArray×α)}(h:Qg k l=none):k ∉ l.map λx=>x.1:=by
 unfold Qg at h;rw[Option.map_eq_none_iff,List.find?_eq_none]at h;intro a;obtain⟨x,b,e⟩:=List.mem_map.1 a;exact h x b (by simpa using e)
theorem Zk.added{A O:Nat->Prop}{w w':World}{b:Nat}{D:Int}{g:Nat}{a:Fs}(h:Zk A O w b D g a){s:ByteArray}{n:Nat}{f:File}(C:Qg s a=none)(N:s.size<=maxLen)(j:Kept (λk=>k=g) w w')(m:Mp prog 9 w' g (sL Y1 (Jh s (n,f) a)))(R:w.heap.size<=n)(S:n<w'.heap.size)(L:Nz (λk=>A k\/k=n) w' n f)(U:used (view a)+f.b.length<=1048576)(P:f.sure<=f.b.length)(Q:a.length<100000):
 Zk (λk=>A k\/k=n) (λk=>O k\/k=n) w' b D g (Jh s (n,f) a):=by
 have c:=Qbh C (n,f);have M:=H9 C;obtain⟨⟨T,q⟩,r,t,v,y,I,J,l,z,B⟩:=h;have K:b≠g:=λe=>by
  subst e;obtain⟨F,E,i,_⟩:=r.1;rw[q]at i;cases i
 refine⟨⟨T,j.heap K q⟩,m,.inl t,.inl v,λx d=>?_,?_,?_,λk h=>?_,λk h=>?_,?_,?_,?_,?_⟩
 ·rcases List.mem_cons.1 (c.subset d)with h|h
  ·subst h
   exact⟨L,.inr rfl,λe=>by have:=l b t;dsimp only at e;omega⟩
  ·obtain⟨o,G,H⟩:=y x h
   refine⟨o.keep j (λe=>?_) (λk h=>h▸z _ v) λk j h=>h.elim id λh=>by omega,.inl G,H⟩;obtain⟨_,_,_,p,_⟩:=o;obtain⟨F,E,i,_⟩:=r.1;rw[e,i]at p;cases p
 ·refine(c.map _).nodup_iff.2 ?_
  rw[List.map_cons,List.nodup_cons];refine⟨λm=>?_,I⟩;obtain⟨x,d,e⟩:=List.mem_map.1 m;have:=l _ (y x d).2.1;dsimp only at e;omega
 ·refine(c.map _).nodup_iff.2 ?_
  rw[List.map_cons,List.nodup_cons];exact⟨M,J⟩
 ·rcases h with h|h
  ·exact Nat.lt_of_lt_of_le (l k h) j.size
  ·omega
 ·exact h.imp (z k) id
 ·rw[c.length_eq,List.length_cons];omega
 ·intro x d
  rcases List.mem_cons.1 (c.subset d)with h|h
  ·subst h;exact N
  ·exact B.2.1 x h
 ·have:used (view (Jh s (n,f) a))=used (view a)+f.b.length:=by
   simp only[used,view,List.map_map];rw[Mi c,List.map_cons,List.sum_cons];simp only[Function.comp];omega
  omega
 ·intro x d
  rcases List.mem_cons.1 (c.subset d)with h|h
  ·subst h;exact P
  ·exact B.2.2.2 x h
theorem Qpx(s:ByteArray)(B:Jb s=true)(y:s.size<=maxLen)(A O:Nat->Prop)(w:World)(q:∀k,A k->k<w.heap.size)(b:Nat)(c:Int)(g:Nat)(f:Fs)(h:Zk A O w b c g f)(l:0<=c/\c<=1048576)(E:Option Addr)(D:Nat)(bs:List UInt8)(t:Rd Ql A w E D bs)(d:(used (view f):Int)+(bs.length:Int)<=c)
 (z:Qg s f=none) (x:f.length<100000):
 Calls prog 236 #[.pointer (some ⟨b,0,none⟩),.string s,.slice E bs.length D] w λe w'=>e=.returned (.int .i64 0)/\∃n,Zk (λk=>A k\/k=n) (λk=>O k\/k=n) w' b c g (Jh s (n,⟨bs,0,false⟩) f)/\Kept O w w'/\w.heap.size<=n/\n<w'.heap.size:=by
 obtain⟨Z,H,Q,U,N,L,C,P⟩:=Zh8 B h z t d q l.2 x;have C:=Zh l.2;obtain⟨T,a⟩:=h.blk;have c1:=cell_of_block a 1 _ rfl;have c0:=cell_of_block a 0 _ rfl;have F:=h.few.2.2.1;obtain⟨K,o⟩:=Zx (used (view f));obtain⟨m,j⟩:=Zx bs.length;rw[<-o]at F d;rw[<-j]at d ⊢;obtain⟨aa,W⟩:=Zh2 o j;have al:IntKind.i64.wrap (c-(K:Int))=c-K:=by rw[IntKind.wrap_i64];omega
 have aj:¬((m:Int)>c-K):=by omega
 clear B h a o j d F l z t q x;go_enter func236,ntmps236;go_wp2_with fail;refine(Tc s y w).mono ?_;rw[Z.o];rintro e am ⟨rfl,a⟩;have z:=Zh a;have F:=a.cell c0;clear a;go_wp2_with fail;go_region_held3 (λw'=>w'.cell? ⟨b,0,none⟩=some (.int .i64 c))
  (first|go_keep|exact B)
  ((go_at_call 322;refine(Qd7 A O _ b c g f (H.bel z.drew)).mono ?_;rw[<-aa.o];rintro e a ⟨rfl,j⟩;have B:=j.cell (z.drew.cell c0);have d:=Zh (z.drew.trans j);clear j))
 go_wp2_with fail;refine(Uu s y A O a b c g f (H.bel d)).mono ?_;rw[Q.o];rintro e an ⟨rfl,rfl⟩;have t:=Zh ((Bel.refl a).alloc (Obj.cells #[Value.slice none 0 0,Value.int IntKind.i64 0,Value.bool false] 196));have ae:=t.cell (d.cell c1);obtain⟨q,ak,o,j⟩:=(H.mp.bel (d.trans t.o)).put G6 underlying174 (k:=.string s.data.toList) (v:=.pointer (some ⟨a.heap.size,0,none⟩)) (by simp[sL,maxLen];have:=P.o;omega) (Qgm y) rfl;have I:=H.lt g H.om;have G:=d.size;have l:=j.heap (by omega) (heap_alloc_new _ _);have e0:=cell_of_block l 0 _ rfl;obtain⟨X,V,M,x⟩:=Zh4 o j l (((d.trans t.o).kept O).trans (j.mono λk _ h=>h▸H.om));have J:=U.keep x (λk h=>H.oa k h) λk _ h=>h
 clear o j l c1 I G F B;go_wp2_with fail;have l:=Qro (r:=Ql) (A:=A) (w:=q) (l1:=[]) (λk h=>Nat.lt_of_lt_of_le (L.o k h) x.size) (Rd.nil Ql A q none 0 (by simp[maxLen])) J 179;rw[<-W.o]at l;refine(Qc2 A _ _ 2 [[],bs] l (by have:=N.o;have:=C.o;simp;omega)).mono ?_;rintro e j ⟨⟨G,F,rfl,R⟩,I⟩;obtain⟨Y,o⟩:=Zh2 R (((Bel.refl q).alloc (.cells #[Value.slice none 0 0,Value.slice E m D] 179)).trans I);have af:=o.cell e0;have B:=Zh (o.heap M);have ah:=Qa B 0;clear R I l J;go_wp2;go_ret;have l:Kept (λk=>k=a.heap.size) j (j.setCell ⟨a.heap.size,0,none⟩ (.slice G bs.length F)):=(Kept.refl (λk=>k=a.heap.size) j).setCell (p:=⟨a.heap.size,0,none⟩) rfl _;have ab:[[],bs].flatten=bs:=by simp
 have S:a.heap.size<j.heap.size:=by
  rcases Nat.lt_or_ge a.heap.size j.heap.size with h|h
  ·exact h
  ·have:=B.o;rw[Array.getElem?_eq_none h]at this;cases this
 have R:Rd Ql (λk=>A k\/k=a.heap.size) j G F [[],bs].flatten:=by
  obtain⟨xs,I,J,ac⟩:=Y.o;exact Own.rd (A:=λk=>A k\/k=a.heap.size) ⟨xs,I.mono λ_ _ _ h=>h,J,ac⟩ λk l=>by
   have ad:=x.size;have ai:a.heap.size<q.heap.size:=by
    rcases Nat.lt_or_ge a.heap.size q.heap.size with h|h
    ·exact h
    ·have:=M.o;rw[Array.getElem?_eq_none h]at this;cases this
   rcases l with h|h
   ·have:=L.o k h;simp;omega
   ·simp;omega
 rw[ab]at R;have a1:=(((d.trans t).kept _).trans V).trans (o.kept _);have ac:=a1.onto l λi J=>.inr (by rw[J];exact d.size)
 have I:=X.o;rw[Lm]at I;rw[show(Value.pointer (some ⟨a.heap.size,0,none⟩):Value)=Y1 (a.heap.size,⟨bs,0,false⟩) from rfl,Rs]at I;have ad:g≠a.heap.size:=by have:=H.lt g H.om;have:=d.size;omega
 refine⟨rfl,a.heap.size,H.added Q.o y ac ((I.bel o.o).kept l ad) d.size (by simpa using S) ⟨196,G,F,by rw[Go.Mem.heap_setCell_same j a.heap.size 0 _ _ _ (0,0) B.o];simp,R.keep l (λk h=>.inr h) λ_ _ h=>h⟩ (by have:=N.o;have:=C.o;simp only;omega) (Nat.zero_le _) P.o,(x.trans (o.kept O)).onto l λi J=>.inr (by rw[J];exact d.size),d.size,by simpa using S⟩
end Go.Proofs.YtkdpmdfcdgphlaaGreat
namespace Go.Po
open Go.Mem Go.Proofs.YtkdpmdfcdgphlaaGreat
theorem G7{α:Type}{k:ByteArray}{v:α}:∀{l:List (ByteArray×α)},(l.map λx=>x.1).Nodup->Qg k l=some v->l.Perm ((k,v)::Qx k l)
 | [],_,h=>by simp[Qg]at h
 | y::r,hn,h=>by
  simp only[List.map_cons,List.nodup_cons]at hn;by_cases a:y.1=k
  ·have b:y.2=v:=by simpa[Qg,List.find?_cons,a] using h
   have d:Qx k r=r:=List.filter_eq_self.2 λx c=>by
    simp only[decide_eq_true_eq];intro e;exact hn.1 (List.mem_map.2 ⟨x,c,by rw[e,a]⟩)
   have c:Qx k (y::r)=r:=by rw[Qx,List.filter_cons,if_neg (by simp[a])];exact d
   rw[c,<-a,<-b]
  ·have b:Qg k r=some v:=by simpa[Qg,List.find?_cons,a] using h
   have c:Qx k (y::r)=y::Qx k r:=by rw[Qx,List.filter_cons,if_pos (by simp[a])];rfl
   rw[c];exact((G7 hn.2 b).cons y).trans (.swap _ _ _)
def marked(f:File):File:=⟨f.b,f.sure,true⟩
def moved{α:Type}(k m:ByteArray)(v:α)(l:List (ByteArray×α)):List (ByteArray×α):=Qx k (Jh m v l)
theorem Sw{α:Type}{k m:ByteArray}{v:α}{l:List (ByteArray×α)}(d:k≠m):(moved k m v l).Perm ((m,v)::Qx m (Qx k l)):=by
 have a:(moved k m v l).Perm (Qx k ((m,v)::Qx m l)):=(Da m v (Qx m l)).filter _;have b:Qx k ((m,v)::Qx m l)=(m,v)::Qx k (Qx m l):=by rw[Qx,List.filter_cons,if_pos (by simpa using d.symm)];rfl
 have c:Qx k (Qx m l)=Qx m (Qx k l):=by simp only[Qx,List.filter_filter,Bool.and_comm]
 rw[b,c]at a;exact a
theorem Qrp{α a:Type}(g:α->a)(k m:ByteArray)(v:α)(l:List (ByteArray×α)):(moved k m v l).map (λp=>(p.1,g p.2))=moved k m (g v) (l.map λp=>(p.1,g p.2)):=by
 rw[moved,Sv,Jh,Qd2,Sv];rfl
end Go.Po
namespace Go.Proofs.YtkdpmdfcdgphlaaGreat
open Tryz
open Go.RowKit Go.Mem Go.Po Go.Maps Go.MapKept
theorem Zk.movedTo{A O:Nat->Prop}{w w':World}{b:Nat}{N:Int}{j:Nat}{a:Fs}(h:Zk A O w b N j a){s t:ByteArray}{n:Nat}{f:File}(L:Qg s a=some (n,f))(Z:s≠t)(aa:t.size<=maxLen)(B:Kept (λk=>k=j\/k=n) w w')(i:Mp prog 9 w' j (sL Y1 (moved s t (n,marked f) a)))(Y:Nz A w' n (marked f)):
 Zk A O w' b N j (moved s t (n,marked f) a):=by
 have d:=Sw (v:=(n,marked f)) (l:=a) Z;have K:=Ju L;obtain⟨⟨T,E⟩,F,U,G,H,V,I,W,y,m⟩:=h;have r:=G7 I L;have c:(Qx t (Qx s a)).Sublist (Qx s a):=Bb _ _;have X:b≠j:=λe=>by
  subst e;obtain⟨Q,P,o,_⟩:=F.1;rw[E]at o;cases o
 have z:=H _ K;have q:=(r.map (λx=>x.2.1)).nodup_iff.1 V;rw[List.map_cons,List.nodup_cons]at q;have M:=(r.map (λx=>x.1)).nodup_iff.1 I;rw[List.map_cons,List.nodup_cons]at M;refine⟨⟨T,B.heap (λe=>e.elim X λe=>z.2.2 e.symm) E⟩,i,U,G,λx g=>?_,?_,?_,λk h=>Nat.lt_of_lt_of_le (W k h) B.size,y,?_,?_,?_,?_⟩
 ·rcases List.mem_cons.1 (d.subset g)with h|h
  ·subst h;exact⟨Y,z.2⟩
  ·have J:=c.subset h
   have ab:x∈a:=(Vz.1 J).1;obtain⟨C,R,S⟩:=H x ab;refine⟨C.keep B (λe=>?_) (λk h=>h.elim (λh=>h▸y _ G) λh=>h▸y _ z.2.1) λ_ _ h=>h,R,S⟩;rcases e with e|e
   ·obtain⟨_,_,_,D,_⟩:=C
    obtain⟨Q,P,o,_⟩:=F.1;rw[e,o]at D;cases D
   ·exact q.1 (List.mem_map.2 ⟨x,J,e⟩)
 ·refine(d.map _).nodup_iff.2 ?_
  rw[List.map_cons,List.nodup_cons];exact⟨λi=>q.1 (c.map _ |>.subset i),q.2.sublist (c.map _)⟩
 ·refine(d.map _).nodup_iff.2 ?_
  rw[List.map_cons,List.nodup_cons];refine⟨λi=>?_,M.2.sublist (c.map _)⟩;obtain⟨x,g,e⟩:=List.mem_map.1 i;exact(Vz.1 g).2 e
 ·have a1:=d.length_eq
  have a2:=r.length_eq;have a3:=c.length_le;rw[List.length_cons]at a1 a2;omega
 ·intro x g
  rcases List.mem_cons.1 (d.subset g)with h|h
  ·subst h;exact aa
  ·exact m.2.1 x (Vz.1 (c.subset h)).1
 ·have a1:used (view (moved s t (n,marked f) a))=f.b.length+used (view (Qx t (Qx s a))):=by
   simp only[used,view,List.map_map];rw[Mi d,List.map_cons,List.sum_cons];rfl
  have a2:used (view a)=f.b.length+used (view (Qx s a)):=by
   simp only[used,view,List.map_map];rw[Mi r,List.map_cons,List.sum_cons];rfl
  have a3:=Qd4 (c.map λp=>(p.1,p.2.2));simp only[view]at a1 a2;simp only[view];have:=m.2.2.1;simp only[view]at this;omega
 ·intro x g
  rcases List.mem_cons.1 (d.subset g)with h|h
  ·subst h;exact(m.2.2.2 _ K:f.sure<=f.b.length)
  ·exact m.2.2.2 x (Vz.1 (c.subset h)).1
theorem Qpy(s t:ByteArray)(K:s.size<=maxLen)(z:t.size<=maxLen)(c:Jb t=true)(a:s≠t)(A O:Nat->Prop)(w:World)(b:Nat)(B:Int)(g:Nat)(j:Fs)(h:Zk A O w b B g j)(n:Nat)(f:File)(d:Qg s j=some (n,f)):
 Calls prog 262 #[.pointer (some ⟨b,0,none⟩),.string s,.string t] w λe w'=>e=.returned (.int .i64 0)/\Zk A O w' b B g (moved s t (n,marked f) j)/\Kept O w w':=by
 obtain⟨H,o,N,S⟩:=Zh4 h d c a;have ad:(s.toList==t.toList)=false:=by
  rw[beq_eq_false_iff_ne];intro e;rw[Go.ByteArray.toList_eq,Go.ByteArray.toList_eq]at e;exact a (M6.1 e)
 clear h d c a;go_enter func262,ntmps262;go_wp2_with fail;refine(Uu s K A O w b B g j H).mono ?_;rw[o.o];rintro e i ⟨rfl,rfl⟩;go_wp2_with fail;refine(Tc t z w).mono ?_;rw[N.o];rintro e i ⟨rfl,c⟩;obtain⟨L,a⟩:=Zh2 c (H.bel c);obtain⟨⟨D,W,V,d,J⟩,E,y⟩:=a.ent _ (Ju o.o);have Z:=cell_of_block d 2 _ rfl;have aa:=Qa d 2;have k1:Kept (λk=>k=n) i (i.setCell ⟨n,2,none⟩ (.bool true)):=(Kept.refl (λk=>k=n) i).setCell (p:=⟨n,2,none⟩) rfl _;have x:g≠n:=λe=>by
  obtain⟨C,q,c,_⟩:=a.mp.1;rw[e]at c;rw[show((s,n,f):ByteArray×(Nat×File)).2.1=n from rfl,c]at d;cases d
 obtain⟨ae,ab,G,l⟩:=(a.mp.kept k1 x).put G6 underlying174 (k:=.string t.data.toList) (v:=.pointer (some ⟨n,0,none⟩)) (by simp[sL,maxLen];have:=a.few.1;omega) (Qgm z) rfl;obtain⟨af,ac,I,r⟩:=G.del G6 underlying174 (Qgm K) 0;have F:b≠g:=λe=>by
  obtain⟨C,q,c,_⟩:=a.mp.1;obtain⟨T,m⟩:=a.blk;rw[e,c]at m;cases m
 obtain⟨T,q⟩:=a.blk;have X:=cell_of_block (k1.heap (λe=>y e.symm) q) 1 _ rfl;have Y:=cell_of_block (l.heap F (k1.heap (λe=>y e.symm) q)) 1 _ rfl;obtain⟨M,R,P,m,Q,C,U⟩:=Zh7 d J I ((((k1.mono (T:=λk=>k=g\/k=n) λ_ _ h=>.inr h).trans (l.mono λ_ _ h=>.inl h))).trans (r.mono λ_ _ h=>.inl h)) x E (l.trans r);clear c d J k1 x G l I r F y E q;go_wp2;go_ret;have c:=P.o;rw[Lm,show(Value.pointer (some ⟨n,0,none⟩):Value)=Y1 (n,marked f) from rfl,Rs,Lm]at c;refine⟨rfl,a.movedTo o.o S.o z m.o c ⟨D,W,V,?_,R.keep m.o (λk h=>h.elim (λh=>h▸H.oa _ H.om) λh=>h▸H.oa _ C.o) λ_ _ h=>h⟩,(L.kept O).trans (m.mono λk _ h=>h.elim (λh=>h▸H.om) λh=>h▸C.o)⟩;exact U.heap (λe=>Q.o e.symm) (by rw[Go.Mem.heap_setCell_same i n 2 _ _ D (0,0) M.o];simp[marked])
theorem Cg(w:World)(a:Int)(i:0<=a/\a<=1048576):
 Calls prog 35 #[.int .i64 a] w λe w'=>e=.returned (.pointer (some ⟨w.heap.size+1,0,none⟩))/\(∀A:Nat->Prop,(∀k,k=w.heap.size+1\/k=w.heap.size->A k)->Zk A (λk=>k=w.heap.size+1\/k=w.heap.size) w' (w.heap.size+1) a w.heap.size [])/\Bel w w'/\w'.heap.size=w.heap.size+2:=by
 have d:∀(w:World) b t,(Builtin.max_ b t #[.int .i64 a,.int .i64 0]).run prog w=.ok (.int .i64 a) w:=λw b t=>by rw[run_max_int2];congr 2;split<;>omega
 have f:∀(w:World) b t,(Builtin.min_ b t #[.int .i64 a,.int .i64 1048576]).run prog w=.ok (.int .i64 a) w:=λw b t=>by rw[run_min_int2];congr 2;split<;>omega
 have g:∀w,(Instr.makeMap 174 none).run prog w=.ok (.map (some w.heap.size)) (w.alloc (.map #[] 0)):=λw=>rfl
 go_enter func35,ntmps35;go_wp2;go_ret;refine⟨rfl,λA c=>⟨⟨176,?_⟩,?_,.inl rfl,.inr rfl,λx b=>by simp at b,.nil,.nil,λk h=>by rcases h with rfl|rfl<;>simp<;>omega,λk h=>c k h,by simp,λx b=>by simp at b,by simp[used,view],λx b=>by simp at b⟩,((Bel.refl w).alloc _).alloc _,by simp⟩
 ·have:=heap_alloc_new (w.alloc (.map #[] 0)) (.cells #[.int .i64 a,.map (some w.heap.size)] 176)
  simpa using this
 ·have:=(Mp.made w prog 9).bel ((Bel.refl _).alloc (.cells #[.int .i64 a,.map (some w.heap.size)] 176))
  simpa[sL] using this
def stays(n:Int)(f:File):Nat:=if 0<n then f.sure+n.toNat % (f.b.length-f.sure+1) else f.sure
def lasts(n:Int)(f:File):Bool:=decide (0<stays n f)||f.named
def Vk(n:Int)(f:File):File:=⟨f.b.take (stays n f),stays n f,true⟩
def Jm(n:Int)(v:List (ByteArray×File)):List (ByteArray×File):=(v.filter λx=>lasts n x.2).map λx=>(x.1,Vk n x.2)
theorem Mj{n:Int}{f:File}(h:f.sure<=f.b.length):stays n f<=f.b.length:=by
 unfold stays;split
 ·have:=Nat.mod_lt n.toNat (show f.b.length-f.sure+1>0 by omega)
  omega
 ·exact h
theorem Qrq{n:Int}{f:File}(h:f.sure<=f.b.length):(Vk n f).b.length=stays n f:=by
 have:=Mj (n:=n) h;simp[Vk];omega
def Rest(fs rest:Fs)(left:Lit->Bool):Prop:=∀x∈fs,(left (.string x.1.data.toList)=true↔x∈rest)
theorem Qt9{a:Value}{b:Lit}(h:keyOf prog 9 a=some b):∃s:ByteArray,a=.string s:=by
 cases a<;>simp[keyOf,underlying9,mapKey]at h
 exact⟨_,rfl⟩
theorem Qua{s:ByteArray}{a:Lit}(h:keyOf prog 9 (.string s)=some a):a=.string s.data.toList:=by
 simp[keyOf,underlying9,mapKey]at h;obtain⟨_,h⟩:=h;exact h.symm
theorem rest_start(a:Fs):Rest a a (Maps.has (DataW.map ((sL Y1 a).map λp=>(p.1,dv p.2)))):=by
 intro x b;rw[Rq,Lp];have:Qg x.1 a≠none:=λh=>H9 h (List.mem_map.2 ⟨x,b,rfl⟩)
 rcases c:Qg x.1 a with _|y
 ·exact absurd c this
 ·simp[b]
theorem came{b:Fs}{s:ByteArray}{v:Value}{y:DataW Unit×List MemPlace}(j:rv v=some y)(i:∀zd,(DataW.map ((sL Y1 b).map λp=>(p.1,dv p.2))).atKey (.string s.data.toList) zd=y.1)(c:Maps.has (DataW.map ((sL Y1 b).map λp=>(p.1,dv p.2))) (.string s.data.toList)=true):
 ∃x,Qg s b=some x/\v=Y1 x:=by
 rw[Rq,Lp]at c;rcases f:Qg s b with _|x
 ·rw[f]at c;cases c
 ·obtain⟨d,ps⟩:=y
  obtain⟨g,h⟩:=Qcp j;have e:=i (dv (Y1 x));rw[Qfj,Lp,f]at e;exact⟨x,rfl,(Qfi (a:=Y1 x) rfl g (by rw[<-h];simpa using e)).symm⟩
theorem rest_step{c d:Fs}{left:Lit->Bool}{s:ByteArray}(h:Rest c d left):Rest c (Qx s d) (λz=>left z&&!z.sameKey (.string s.data.toList)):=by
 intro x i;have f:=h x i;rw[Vz,<-f];have g:((Lit.string x.1.data.toList).sameKey (.string s.data.toList))=decide (x.1=s):=by
  have:=M6 (a:=x.1) (b:=s);by_cases e:x.1=s
  ·subst e;simp[Lit.sameKey]
  ·have:x.1.data.toList≠s.data.toList:=λh=>e (this.1 h)
   simp[Lit.sameKey,e];intro h;exact this (by rw[h])
 show(left (.string x.1.data.toList)&&!(Lit.string x.1.data.toList).sameKey (.string s.data.toList))=true↔_;rw[g];by_cases e:x.1=s<;>simp[e]
theorem rest_end{b a:Fs}{left:Lit->Bool}(h:Rest b a left)(d:∀x∈a,x∈b)(c:∀e,left e=false):a=[]:=by
 rcases a with _|⟨x,r⟩
 ·rfl
 ·have:=(h x (d x (by simp))).2 (by simp)
  rw[c]at this;cases this
theorem Qih{w w':World}{b:Nat}(h:Kept (λk=>k=b) w w'):w.grownBy w' (some b):=⟨h.os,h.tape,h.output,h.size,λk a c=>h.block k a λe=>c (by rw[e])⟩
theorem Qav{w w':World}{b:Nat}(h:w.grownBy w' (some b)):Kept (λk=>k=b) w w':=⟨h.os,h.tape,h.output,h.size,λk a c=>h.block k a λe=>c (Option.some.inj e)⟩
theorem Zk.mono{A B O:Nat->Prop}{w:World}{b:Nat}{d:Int}{c:Nat}{a:Fs}(h:Zk A O w b d c a)(e:∀k,k<w.heap.size->B k->A k)(f:∀k,O k->B k):Zk B O w b d c a:=
 h.keep (Kept.refl (λ_=>False) w) (λ_ _ h=>h) (λ_ h=>h.elim) e f
structure Nw(A:Nat->Prop)(n:Int)(room:Int)(fs:Fs)(w wr:World)(r:Nat)(left:Lit->Bool):Prop where
 ex:∃(done rest fs':Fs) (O':Nat->Prop),Rest fs rest left/\fs.Perm (done++rest)/\Zk (λk=>A k\/O' k\/k=r) O' wr (w.heap.size+1) room w.heap.size fs'/\(view fs').Perm (Jm n (view done))/\∀k,O' k->w.heap.size<=k/\k≠r
 has:∀kl,left kl=true->Maps.has (DataW.map ((sL Y1 fs).map λp=>(p.1,dv p.2))) kl=true
 bel:Bel w wr
theorem Nw.step{A:Nat->Prop}{n m:Int}{b:Fs}{w wr o p:World}{r:Nat}{left:Lit->Bool}(h:Nw A n m b w wr r left)(D:(b.map λx=>x.1).Nodup){s:ByteArray}{x:Nat×File}(F:Qg s b=some x)(C:left (.string s.data.toList)=true)(B:Kept (λk=>k=r) wr o)(v:Bel o p):
 ∃(done f c:Fs) (a:Nat->Prop),Rest b f (λz=>left z&&!z.sameKey (.string s.data.toList))/\b.Perm ((done++[(s,x)])++f)/\(∀y∈done,y.1≠s)/\Zk (λk=>A k\/a k\/k=r) a p (w.heap.size+1) m w.heap.size c/\(view c).Perm (Jm n (view done))/\(∀k,a k->w.heap.size<=k/\k≠r):=by
 obtain⟨⟨done,f,c,a,i,j,H,I,l⟩,K,J⟩:=h;have g:=(i _ (Ju F)).1 C;have d:=(j.map (λx=>x.1)).nodup_iff.1 D;rw[List.map_append,List.nodup_append]at d;have E:=G7 d.2.1 (Gf d.2.1 g);refine⟨done,Qx s f,c,a,rest_step i,?_,λy G e=>?_,(H.keep B (λk q t=>(l k q).2 t) (λk h=>.inr (.inr h)) (λ_ _ h=>h) (λk h=>.inr (.inl h))).bel v,I,l⟩
 ·rw[List.append_assoc]
  exact j.trans (List.Perm.append_left done E)
 ·exact d.2.2 y.1 (List.mem_map.2 ⟨y,G,rfl⟩) s (List.mem_map.2 ⟨_,g,rfl⟩) e
theorem Qj8{a:Fs}{w wr:World}{A:Nat->Prop}{n d:Int}{r:Nat}{left:Lit->Bool}(h:Nw A n d a w wr r left)(c:Lit):∀z,(left z&&!z.sameKey c)=true->Maps.has (DataW.map ((sL Y1 a).map λp=>(p.1,dv p.2))) z=true:=λz b=>h.has z (by simp at b;exact b.1)
theorem Qe0(n:Int)(l:Fs)(s:ByteArray)(x:Nat×File):Jm n (view (l++[(s,x)]))=Jm n (view l)++if lasts n x.2 then [(s,Vk n x.2)] else []:=by
 simp only[Jm,view,List.map_append,List.filter_append,List.map_cons,List.map_nil,List.filter_cons,List.filter_nil];split<;>simp
theorem Qbg(ao:Option Addr)(n cap b:Nat)(f:b<=cap)(w:World):
 (Instr.slice 179 (.slice ao n cap) none (some (.int .i64 b)) none).run prog w=.ok (.slice ao b cap) w:=by
 obtain⟨j,k,c,g,e,h,i⟩:=(Vn).hi;have d:∀w:World,(sizeOf 5).run prog w=.ok 1 w:=λw=>by simp[sizeOf,typeInfo,c,e]
 rw[run_slice_h w 179 ao n cap (by rw[De];exact underlying179) .i64 b (by omega) (by omega),De,d];rcases ao with _|a<;>simp[Result.andThen,sliced,Addr.add]
theorem Ny(n:Int):∀v:List (ByteArray×File),used (Jm n v)<=used v
 | []=>Nat.le_refl _
 | y::r=>by
  have ih:=Ny n r;simp only[used,Jm,List.filter_cons]at ih ⊢;split
  ·simp only[List.map_cons,List.sum_cons]
   have:(Vk n y.2).b.length<=y.2.b.length:=by simp[Vk];omega
   omega
  ·simp only[List.map_cons,List.sum_cons];omega
theorem Ub{l m:List (ByteArray×File)}(h:l.Perm m):used l=used m:=Mi h _
theorem Qj9(l m:List (ByteArray×File)):used (l++m)=used l+used m:=by simp[used]
theorem Qka(l m:Fs):view (l++m)=view l++view m:=by simp[view]
theorem Qub{n:Int}{a done:Fs}{s:ByteArray}(i:(view a).Perm (Jm n (view done)))(g:∀y∈done,y.1≠s):Qg s a=none:=by
 rcases h:Qg s a with _|y
 ·rfl
 ·have d:(s,y.2)∈view a:=List.mem_map.2 ⟨_,Ju h,rfl⟩
  have f:=i.subset d;obtain⟨z,j,e⟩:=List.mem_map.1 f;obtain⟨b,k,c⟩:=List.mem_map.1 (List.mem_filter.1 j).1;have:b.1=s:=by rw[<-c]at e;exact congrArg Prod.fst e
  exact absurd this (g b k)
theorem Nw.laid{A:Nat->Prop}{n room:Int}{fs:Fs}{w wc w5 w6:World}{r:Nat}{left:Lit->Bool}{left2:Lit->Bool}(hA:∀k,A k->k<w.heap.size)(hfs:fs.length<=100000/\(∀x∈fs,x.1.size<=maxLen)/\used (view fs)<=1048576){s:ByteArray}{x:Nat×File}(hx:(s,x)∈fs)(hsure:x.2.sure<=x.2.b.length)(hL:lasts n x.2=true){done rest fs':Fs}{O':Nat->Prop}
 (q1:Rest fs rest left2) (q2:fs.Perm ((done++[(s,x)])++rest)) (q3:∀y∈done,y.1≠s) (q4:Zk (λk=>A k\/O' k\/k=r) O' wc (w.heap.size+1) room w.heap.size fs') (q5:(view fs').Perm (Jm n (view done))) (q6:∀k,O' k->w.heap.size<=k/\k≠r) (hrlt:r<wc.heap.size) (hwc:w.heap.size<=wc.heap.size)
 (b5:Bel wc w5) {co:Option Addr} {cc:Nat} (ho:Own Ql A wc.drew w5 5 co cc (x.2.b.take (stays n x.2)))
 (hk6:Kept (λk=>k=w.heap.size) (w5.alloc (Obj.cells #[Value.slice co (stays n x.2) cc,Value.int .i64 (stays n x.2),Value.bool true] 196)) w6)
 (hm6:Mp prog 9 w6 w.heap.size (Wu (.string s.data.toList) (.pointer (some ⟨w5.heap.size,0,none⟩)) (U1 (.string s.data.toList) (sL Y1 fs'))))
 (hhas:∀kl,left2 kl=true->Maps.has (DataW.map ((sL Y1 fs).map λp=>(p.1,dv p.2))) kl=true) (hb:Bel w wc):Nw A n room fs w w6 r left2:=by
 have hn:=Qub q5 q3;have hk5:Kept (λk=>k=w.heap.size) w5 w6:=(((Bel.refl w5).alloc _).kept _).trans hk6;rw[Lm,show(Value.pointer (some ⟨w5.heap.size,0,none⟩):Value)=Y1 (w5.heap.size,Vk n x.2) from rfl,Rs]at hm6;have hml:=Qrq (n:=n) hsure;have hperm:=Qbh hn (w5.heap.size,Vk n x.2);have hu1:used (view fs')<=used (view done):=by rw[Ub q5];exact Ny _ _
 have hu2:used (view fs)=used (view done)+x.2.b.length+used (view rest):=by
  rw[show used (view fs)=used (view (done++[(s,x)]++rest)) from Ub (List.Perm.map (λp:ByteArray×(Nat×File)=>(p.1,p.2.2)) q2),Qka,Qka,Qj9,Qj9];simp[used,view]
 have hlen:fs'.length<100000:=by
  have h1:=q5.length_eq;have h2:=q2.length_eq;have h3:(Jm n (view done)).length<=done.length:=by
   simp only[Jm,List.length_map];exact Nat.le_trans (List.length_filter_le _ _) (by simp[view])
  simp only[view,List.length_map]at h1;simp only[List.length_append,List.length_cons,List.length_nil]at h2;simp only[view]at h3;have:=hfs.1;omega
 have hst:=Mj (n:=n) hsure;have h65:w5.heap.size<w6.heap.size:=Nat.lt_of_lt_of_le (by simp) hk6.size;have hrd:Rd Ql (λk=>A k\/O' k\/k=r) w5 co cc (x.2.b.take (stays n x.2)):=by
  obtain⟨xs,o1,o2,o3⟩:=ho;exact Own.rd (w0:=wc.drew) (A:=λk=>A k\/O' k\/k=r) ⟨xs,o1.mono λ_ _ _ h=>h,o2,o3⟩ λk hk=>by
   rcases hk with h|h|h
   ·have:=hA k h;simp;omega
   ·have:=q4.lt k h;simp;omega
   ·simp;omega
 have he:Nz (λk=>(A k\/O' k\/k=r)\/k=w5.heap.size) w6 w5.heap.size (Vk n x.2):=by
  refine⟨196,co,cc,?_,?_⟩
  ·rw[hml]
   exact hk6.heap (λe=>by have h1:=q4.lt _ q4.om;have h2:=b5.size;have e':w5.heap.size=w.heap.size:=e;omega) (heap_alloc_new w5 _)
  ·exact hrd.keep hk5 (λk h=>.inr (.inl (h▸q4.om))) λk h1 h2=>h2.elim id λh=>absurd (show k=w5.heap.size from h) (by omega)
 have hD:=(q4.bel b5).added hn (hfs.2.1 _ hx) hk5 hm6 (Nat.le_refl _) h65 he (by rw[hml];have:=hfs.2.2;omega) (by rw[hml];exact Nat.le_refl _) hlen;refine⟨⟨done++[(s,x)],rest,_,_,q1,q2,hD.mono (λk _ h=>?_) (λk h=>.inr (.inl h)),?_,λk h=>?_⟩,hhas,?_⟩
 ·rcases h with h|h|h
  ·exact .inl (.inl h)
  ·exact h.elim (λh=>.inl (.inr (.inl h))) .inr
  ·exact .inl (.inr (.inr h))
 ·rw[Qe0,hL,if_pos rfl]
  have h1:(view (Jh s (w5.heap.size,Vk n x.2) fs')).Perm ((s,Vk n x.2)::view fs'):=hperm.map _;exact h1.trans ((q5.cons _).trans (List.perm_append_singleton _ _).symm)
 ·rcases h with h|h
  ·exact q6 k h
  ·have h1:=b5.size
   exact⟨by omega,by omega⟩
 ·exact(hb.trans b5).of_kept hk5 λk h=>Nat.le_of_eq (show k=w.heap.size from h).symm
theorem Quc(n:Int)(A O:Nat->Prop)(w:World)(hA:∀k,A k->k<w.heap.size)(b:Nat)(room:Int)(mb:Nat)(fs:Fs)(h:Zk A O w b room mb fs)(hr:0<=room/\room<=1048576):
 Calls prog 39 #[.pointer (some ⟨b,0,none⟩),.int .i64 n] w λe w'=>∃b' mb' fs' O',e=.returned (.pointer (some ⟨b',0,none⟩))/\Zk (λk=>A k\/O' k) O' w' b' room mb' fs'/\(view fs').Perm (Jm n (view fs))/\(∀k,O' k->w.heap.size<=k)/\Bel w w':=by
 obtain⟨H,HA⟩:=Zh2 h hA;obtain⟨T,hb⟩:=h.blk;have c0:=cell_of_block hb 0 _ rfl;have c1:=cell_of_block hb 1 _ rfl;clear h hb hA;go_enter func39,ntmps39;go_wp2_with fail;refine(Cg w room hr).mono ?_;rintro e w1 ⟨rfl,hd,hb1,hs1⟩;obtain⟨HD,B1⟩:=Zh2 hd hb1;have d1:=hb1.cell c1;have hmp:=H.mp.bel hb1;have HMP:=Zh hmp;clear hd hb1 hmp;go_wp2_with(first|(at_range;refine wpList_range_own _ rfl _ 174 rfl 9 194 G6 underlying174 rv mb _ _ rfl HMP.1 ?_;intro w0 hrg0 hg0 hs0)|go_in);go_frame
 have F0:Hid (Nw A n room fs w w0 w1.heap.size (Maps.has (DataW.map ((sL Y1 fs).map λp=>(p.1,dv p.2))))):=Zh ⟨⟨[],fs,[],(λk=>k=w.heap.size+1\/k=w.heap.size),rest_start fs,.refl _,
  (HD.o _ λk h=>.inr (.inl h)).keep (S:=λ_=>False) ⟨hg0.os,hg0.tape,hg0.output,hg0.size,λk h1 _=>hg0.block k h1 (by simp)⟩ (λ_ _ h=>h) (λ_ h=>h.elim) (λ_ _ h=>h) (λk h=>.inr (.inl h)),.refl _,λk h=>by rcases h with h|h<;>omega⟩,λ_ h=>h,B1.trans (Bel.of_kept (Bel.refl _) (S:=λ_=>False) ⟨hg0.os,hg0.tape,hg0.output,hg0.size,λk h1 _=>hg0.block k h1 (by simp)⟩ λ_ h=>h.elim)⟩
 have HRG:=Zh hrg0;have d0:w1.heap.size<w0.heap.size:=by omega
 clear hrg0 hg0 d1;obtain⟨r,hr1⟩:=Zx w1.heap.size;rw[<-hr1]at F0 HRG hs1 ⊢;have HS1:=Zh hs1;clear hs0 hs1 hr1 d0;go_loopw[6,7,8] (λ_ _ _ wr=>∃left cnt,Hid (wr.ranges prog 9 rv mb r (sL Y1 fs).length (DataW.map ((sL Y1 fs).map λp=>(p.1,dv p.2))) left cnt)/\Hid (Nw A n room fs w wr r left)) (λ_ _ _ wr=>wr.rangeLeft mb r)
 case atStart=>exact⟨_,_,HRG,F0⟩
 case round=>
  obtain⟨left,cnt,hrg,hF⟩:=hrel;go_wp2_with(first|(at_next;refine wpList_next_ranges _ rfl _ rfl 9 G6 rv Value.string id (λkey kl h=>Qt9 h) (λv _ _=>⟨v,rfl⟩) mb r _ _ _ _ rfl hrg.o ?_ ?_)|go_in)
  ·intro _ hl0
   have HL:=Zh hl0;clear hl0;go_wp2;go_ret;obtain⟨⟨done,rest,fs',O',q1,q2,q3,q4,q5⟩,qh,qb⟩:=hF.o;have hrest:=rest_end q1 (λx hx=>q2.symm.subset (List.mem_append_right _ hx)) HL;subst hrest;rw[List.append_nil]at q2;exact⟨_,_,fs',O',rfl,q3.mono (λk _ h=>h.elim .inl λh=>.inr (.inl h)) (λk h=>.inr h),q4.trans (((q2.symm.map _).filter _).map _),λk h=>(q5 k h).1,qb⟩
  ·intro s v kl yd yp w2 cnt1 hkey hlk hv hat hrg1 hlt hg1 hs1' hen
   have hkl:=Qua hkey;subst hkl;obtain⟨x,hx,hvx⟩:=came hv hat (hF.has _ hlk);subst hvx;have hk2:=Qav hg1;have hb2:Bel w w2:=hF.bel.of_kept hk2 λk h=>by rw[h];have:=HS1.o;omega
   have hmem:=Ju hx;obtain⟨⟨T2,fo,fc,hbf,hrf⟩,hOx,_⟩:=(H.bel hb2).ent _ hmem;have hxlt:=H.lt _ hOx;have HBF:=Zh hbf;have e0:=cell_of_block hbf 0 _ rfl;have e1:=cell_of_block hbf 1 _ rfl;have e2:=cell_of_block hbf 2 _ rfl;have hsl:=H.few.2.2.2 _ hmem;have hbl:=Qcl hmem;have hul:=H.few.2.2.1;have hen':=hen;dsimp only[Y1]at hen';obtain⟨HX,HK2,HB2,HRF,HRG1,HLK⟩:=Zh6 hx hk2 hb2 hrf hrg1 hlk;clear hv hat hkey hk2 hb2 hmem hbf hrf hrg1 hlk hg1 hen hx;dsimp only at hsl hbl;have hst:0<n->wrap64 ((x.2.sure:Int)+n % (((x.2.b.length-x.2.sure:Nat):Int)+1))=(stays n x.2:Int):=λhn=>by
    have h1:=Mj (n:=n) hsl;have h2:n % (((x.2.b.length-x.2.sure:Nat):Int)+1)=((n.toNat % (x.2.b.length-x.2.sure+1):Nat):Int):=by
     rw[Int.natCast_emod,Int.toNat_of_nonneg (by omega)];rfl
    rw[h2];simp only[stays,if_pos hn]at h1 ⊢;unfold wrap64;omega
   have HST:=Zh hst;clear hst;obtain⟨st,hstv⟩:=Zx (stays n x.2);have hstl:st<=x.2.b.length:=by rw[hstv];exact Mj hsl
   have HSV:=Zh hstv;clear hstv;go_upto_if 31 with (fail);go_cut[8] from 31 to 46 (λs8 wx=>s8=.int .i64 (st:Int)/\Hid (Bel w2 wx))
   case first=>
    by_cases hn:0<n
    ·have hm1:IntKind.i64.wrap ((x.2.b.length:Int)-(x.2.sure:Int))=((x.2.b.length-x.2.sure:Nat):Int):=by rw[IntKind.wrap_i64];omega
     have hm2:IntKind.i64.wrap (((x.2.b.length-x.2.sure:Nat):Int)+1)=((x.2.b.length-x.2.sure+1:Nat):Int):=by rw[IntKind.wrap_i64];omega
     go_wp2_with fail;go_quiet (fail)
     go_wp2;go_meet;exact⟨by rw[HST.o hn,HSV.o],Zh ((Bel.refl w2).drewN _)⟩
    ·have hs0:st=x.2.sure:=by rw[HSV.o];simp[stays,hn]
     go_wp2;go_meet;exact⟨by rw[hs0],Zh (Bel.refl w2)⟩
   case rest=>
    obtain⟨rfl,hBx⟩:=hcut;have f0:=hBx.cell e0;have f1:=hBx.cell e1;have f2:=hBx.cell e2;clear e0 e1 e2;go_upto_region 10 with (fail);go_cut[54] from 47 to 54 (λt wy=>t=.bool (lasts n x.2)/\Hid (wy=wc))
    case first=>
     by_cases h0:0<st
     ·have h1:lasts n x.2=true:=by simp[lasts,<-HSV.o,h0]
      go_wp2;go_meet;exact⟨by rw[h1],Zh rfl⟩
     ·have h1:lasts n x.2=x.2.named:=by simp[lasts,<-HSV.o,h0]
      go_wp2;go_meet;exact⟨by rw[h1],Zh rfl⟩
    case rest=>
     obtain⟨rfl,hwy⟩:=hcut;obtain rfl:=hwy.o;have hwr:w.heap.size<=r:=by have:=HS1.o;omega
     rcases hL:lasts n x.2 with _|_
     ·have HL:=Zh hL
      have HRG3:=Zh (HRG1.kept (row:=none) (w':=wc) ⟨hBx.os,hBx.tape,hBx.output,hBx.size,λk h1 _=>Below.block hBx.o k h1⟩ (by simp) (by simp));clear hL;go_wp2;go_roundw
      case rel=>
       exact⟨_,_,HRG3,Zh (by
        obtain⟨done,rest,fs',O',q1,q2,q3,q4,q5,q6⟩:=hF.step H.nm HX.o HLK.o HK2.o hBx.o;exact⟨⟨done++[(s,x)],rest,fs',O',q1,q2,q4,by rw[Qe0,HL.o];simpa using q5,q6⟩,Qj8 hF.o _,HB2.trans hBx.o⟩)⟩
      case measure=>rw[HRG3.left_eq,hrg.left_eq];exact hlt
     ·have HL:=Zh hL
      clear hL;obtain⟨done,rest,fs',O',q1,q2,q3,q4,q5,q6⟩:=hF.step H.nm HX.o HLK.o HK2.o hBx.o;obtain⟨To,hob⟩:=q4.blk;have g1:=cell_of_block hob 1 _ rfl;obtain⟨HOB,Q1,Q2,Q3,Q4,Q5,Q6⟩:=Zh7 hob q1 q2 q3 q4 q5 q6;have hfc:st<=fc:=by have h5:=HRF.le;dsimp only at h5;omega
      have hcutb:=λw=>Qbg fo x.2.b.length fc st hfc w
      have HTK:=Zh (HRF.bel hBx |>.take hstl);have htl:(x.2.b.take st).length=st:=by simp;omega
      have HTL:=Zh htl;clear q1 q2 q3 q4 q5 q6 hob htl;go_wp2_with fail;go_region_held3 (λw'=>w'.cell? ⟨w.heap.size+1,1,none⟩=some (.map (some w.heap.size))/\w'.cell? ⟨x.1,0,none⟩=some (.slice fo x.2.b.length fc))
       (first|go_keep|exact⟨z1,z2⟩|exact⟨y1,y2⟩)
       ((go_at_call 110;have hcl:=H7 A wc.drew fo fc (x.2.b.take st) (HTK.bel (Bel.refl wc).drew) (by rw[HTL.o];omega);rw[HTL.o]at hcl;refine hcl.mono ?_;rintro e w5 ⟨⟨co,cc,rfl,ho⟩,hb5⟩;have z1:=hb5.cell (((Bel.refl wc).drew).cell g1);have z2:=hb5.cell (((Bel.refl wc).drew).cell f0);have HO:=Zh ho;have B5:=Zh (((Bel.refl wc).drew).trans hb5);obtain⟨w6,hrun,hm6,hk6⟩:=((Q4.mp.bel B5.o).bel ((Bel.refl w5).alloc (Obj.cells #[Value.slice co st cc,Value.int .i64 st,Value.bool true] 196))).put G6 underlying174 (k:=.string s.data.toList) (v:=.pointer (some ⟨w5.heap.size,0,none⟩)) (by simp[sL,maxLen];have:=Q4.few.1;omega) (Qgm (H.few.2.1 _ (Ju HX.o))) rfl;have y1:w6.cell? ⟨w.heap.size+1,1,none⟩=some (.map (some w.heap.size)):=cell_of_block (hk6.heap (by omega) (((Bel.refl w5).alloc _).heap (B5.heap HOB.o))) 1 _ rfl;have y2:w6.cell? ⟨x.1,0,none⟩=some (.slice fo x.2.b.length fc):=cell_of_block (hk6.heap (by omega) (((Bel.refl w5).alloc _).heap (B5.heap (hBx.heap HBF.o)))) 0 _ rfl;have HM6:=Zh hm6;have HK6:=Zh hk6;clear ho hb5 hm6 hk6))
      have hk5:=((B5.trans ((Bel.refl w5).alloc _)).kept _).trans HK6;have HRG3:=Zh (HRG1.kept (row:=some w.heap.size) (w':=w6) (Qih (((hBx.o).kept _).trans hk5)) (by simp;have:=H.lt mb H.om;omega) (by simp;have:=HS1.o;omega));go_wp2;go_roundw
      case rel=>
       have hsv:=HSV.o;have hsz:=(HB2.trans hBx).size;exact⟨_,_,HRG3,Zh (Nw.laid (left:=left) HA.o ⟨H.few.1,H.few.2.1,H.few.2.2.1⟩ (Ju HX.o) hsl HL.o Q1.o Q2.o Q3.o Q4.o Q5.o Q6.o (Nat.lt_of_lt_of_le HRG1.lt hBx.size) hsz B5.o (hsv▸HO.o) (hsv▸HK6.o) HM6.o (Qj8 hF.o _) (HB2.trans hBx.o))⟩
      case measure=>rw[HRG3.left_eq,hrg.left_eq];exact hlt
end Go.Proofs.YtkdpmdfcdgphlaaGreat

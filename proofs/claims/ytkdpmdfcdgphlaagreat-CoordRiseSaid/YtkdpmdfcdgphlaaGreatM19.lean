/- Part of this claim's proof. Conditions: as its theorems say. -/
import Derived.Laws.EntriesVeiled
import Derived.Test.YtkdpmdfcdgphlaaGreatM11
import Derived.Test.YtkdpmdfcdgphlaaGreatM13
set_option linter.all false
set_option maxHeartbeats 1000000
set_option maxRecDepth 100000
namespace Go.Mem
open Go.RowKit
variable {P : Program}
theorem Xe{α:Type}{r:Rp α}{A:Nat->Prop}{w0:World}(w:World){g:Array Oper}{j:List Oper}{o:Oper}{a:Act}{Q:Exit->Act->World->Prop}(H:o.guard=none)(s x:Operand)(t f:TypeId)
 (L:o.op=.call { callee:=.builtin .append,args:=#[s,x],argTypes:=#[t,f] })
 {e d:Nat} (B:El P t e r.size d) (ao:Option Addr) (n cap:Nat) (l:List α) (K:n=l.length) (h:Own r A w0 w e ao cap l) (F:a.eval s=.slice ao n cap) (v:Value) (G:a.eval x=v) (m:List α) (vs:List Value) (J:Ch (r.R (λk=>A k\/Qc ao cap k) w) r.size m vs) (M:Src P r.size f v m.length vs w)
 (I:n+m.length<=4294967296) (E:d<=32768) (D:w0.heap.size<=w.heap.size)
 (C:∀b c w',Own r A w0 w' e b c (l++m)->Kept (Qc ao cap) w w'->(∀k,Qc b c k->Qc ao cap k\/k=w.heap.size)->wpList P g Q j (a.put o.dst (.slice b (n+m.length) c)) w'):
 wpList P g Q (o::j) a w:=by
 subst K;obtain⟨xs,p,q,y⟩:=h;obtain⟨N,i,z,O,R,S,T,U⟩:=B;refine Vf w H s x t f L e i z r.size d N O R S T U ao l.length cap xs q F v G m.length vs M (by simp only[maxLen];omega) ?_ λb c w' k1 k2 k3=>?_
 ·have:=Nat.mul_le_mul I E;omega
 ·refine C b c w' ⟨xs++vs,(p.append J).mono λ_ _ _ h=>r.keep h k2 (λk b=>.inr b) (λk b c=>c.imp id λh=>?_),by rw[List.length_append];exact k1,λk b=>?_⟩ k2 k3
  ·rcases k3 k h with h|h
   ·exact h
   ·omega
  ·rcases k3 k b with h|h
   ·exact y k h
   ·rw[h];exact D
theorem Kept.set1(w:World)(g o:Nat)(v:Value):Kept (λk=>k=g) w (w.setCell ⟨g,o,none⟩ v):=
 Kept.setCell (S:=λk=>k=g) (Kept.refl _ w) (p:=⟨g,o,none⟩) rfl v
theorem Yp(w:World)(g o:Nat)(v:Value){a:Array Value}{e:TypeId}{b:Nat×Nat}(c:w.heap[g]?=some (.cells a e b)):(w.setCell ⟨g,o,none⟩ v).heap[g]?=some (.cells (a.setIfInBounds o v) e b):=by
 simp[World.setCell,Array.getElem?_modify,c]
theorem Jc(w:World)(o a:Obj):((w.alloc o).alloc a).heap[w.heap.size+1]?=some a:=by
 simpa using heap_alloc_new (w.alloc o) a
theorem Ke(w:World)(o a:Obj):((w.alloc o).alloc a).heap[w.heap.size]?=some o:=((Bel.refl _).alloc _).heap (heap_alloc_new _ _)
theorem Qk7{c f:TypeId}(w:World)(i:P.underlying c=some (.slice f)){b:Nat}{v:Value}{T:TypeId}{g:Nat×Nat}(h:w.heap[b]?=some (.cells #[v] T g))(k:v.oneCell'=true):
 Src P 1 c (.slice (some ⟨b,0,none⟩) 1 1) 1 [v] w:=
 Src.ofSlice w i ⟨b,0,none⟩ 1 1 [v] rfl (λj d a=>by
  rcases j with _|j
  ·have e:v=d:=by simpa using a
   subst e;rw[Addr.add_lit,Nat.zero_add];exact cell_of_block h 0 _ rfl
  ·simp at a) (λd a=>by simp only[List.mem_singleton]at a;subst a;exact k)
theorem Rd.pair{α:Type}{r:Rp α}{A:Nat->Prop}{w:World}{b:Nat}{T:TypeId}{d:Nat×Nat}{a1 a2:Option Addr}{c1 c2:Nat}{l1 a:List α}(e:w.heap[b]?=some (.cells #[.slice a1 l1.length c1,.slice a2 a.length c2] T d))(f:Rd r A w a1 c1 l1)(g:Rd r A w a2 c2 a)(h:¬A b):Rd r.list A w (some ⟨b,0,none⟩) 2 [l1,a]:=by
 refine⟨[.slice a1 l1.length c1,.slice a2 a.length c2],.cons (vs:=[.slice a1 l1.length c1]) ⟨a1,c1,rfl,f⟩ rfl (.cons (vs:=[.slice a2 a.length c2]) ⟨a2,c2,rfl,g⟩ rfl .nil),rfl,Nat.le_refl _,by simp[maxLen],λ_=>⟨b,0,_,T,d,rfl,Qb e,h,e,λj c c=>?_⟩⟩;rw[Nat.zero_add];have:j<2:=(List.getElem?_eq_some_iff.1 c).1;rcases j with _|_|j
 ·simpa using c
 ·simpa using c
 ·omega
end Go.Mem
namespace Go.Proofs.YtkdpmdfcdgphlaaGreat
open Tryz
open Go.RowKit Go.Mem Go.Po Go.Maps Go.Sort Go.Shelf
theorem Qf0{α q:Type}[Inhabited q](r:Rp α)(a:q->Value)(c:α->q)(f:r.size=1)(v:∀(A:Nat->Prop) w x vs,r.R A w x vs↔vs=[a (c x)]){A:Nat->Prop}{w0 w:World}{e:TypeId}{ao:Option Addr}{cap:Nat}{l:List α}(i:Own r A w0 w e ao cap l)(h:0<l.length):
 ∃g off,ao=some ⟨g,off,none⟩/\Holds a w g off (l.map c).toArray/\g<w.heap.size/\∀(m:List α) (n:Nat) (d:Array Obj),m.length=l.length →
  Own r A w0 (grow (putRow a (Sort.ahead w n) g off (m.map c).toArray) d) e ao cap m/\Kept (Qc ao cap) w (grow (putRow a (Sort.ahead w n) g off (m.map c).toArray) d):=by
 obtain⟨xs,b,⟨z,o,J,C⟩,F⟩:=i;have I:xs=l.map λx=>a (c x):=by
  have:=(b.mono λx vs _ i=>(v _ _ _ _).1 i).flat_eq;rw[this];clear this z o C b h;induction l with
  | nil=>rfl
  | cons x l ih=>rw[List.flatMap_cons,ih];rfl
 obtain⟨g,off,h,rfl,y,o,t,G⟩:=C (by omega);rw[f,Nat.mul_one]at z t;refine⟨g,off,rfl,λj b=>?_,y,λm n d p=>?_⟩
 ·have p:j<l.length:=by simpa using b
  have:=G j (a (c l[j])) (by rw[I];simp[p]);refine⟨?_,by simp[World.frozen?,o]⟩;rw[getElem!_pos _ _ (by simpa using p)];simp[World.cell?,o,this]
 ·have s:(grow (putRow a (Sort.ahead w n) g off (m.map c).toArray) d).heap[g]?=some (.cells (putCells a off (m.map c).toArray h) e (0,0)):=by
   rw[show(grow (putRow a (Sort.ahead w n) g off (m.map c).toArray) d).heap=(putRow a (Sort.ahead w n) g off (m.map c).toArray).heap++d from rfl,Array.getElem?_append_left (by simpa using y)];simp[putRow,mapBlock,Array.getElem?_modify,o,onCells]
  have D:∀j x,m[j]?=some x->(putCells a off (m.map c).toArray h)[off+j]?=some (a (c x)):=λj x b=>by
   obtain⟨E,rfl⟩:=List.getElem?_eq_some_iff.1 b;have p:off+j<h.size:=by omega
   simp only[putCells,Array.getElem?_mapIdx,Array.getElem?_eq_getElem p,Option.map_some];rw[if_pos (by simp;omega),show off+j-off=j by omega,getElem!_pos _ _ (by simpa using E)];simp
  refine⟨⟨m.map λx=>a (c x),?_,⟨by rw[f,Nat.mul_one,List.length_map],by omega,J,λ_=>⟨g,off,_,rfl,?_,s,by rw[f,Nat.mul_one];simpa[putCells] using t,λj p b=>?_⟩⟩,F⟩,⟨rfl,rfl,rfl,by simp,λk E H=>?_⟩⟩
  ·rw[f]
   have p:∀(B:Nat->Prop) (W:World) (m:List α),Ch (r.R B W) 1 m (m.map λx=>a (c x)):=λB W m=>by
    induction m with
    | nil=>exact .nil
    | cons x m ih=>exact .cons (vs:=[a (c x)]) ((v _ _ _ _).2 rfl) rfl ih
   exact p _ _ m
  ·exact Qb s
  ·rw[List.getElem?_map]at b
   rcases p:m[j]? with _|x
   ·rw[p]at b;cases b
   ·rw[p]at b;cases b
    exact D j x p
  ·have b:k≠g:=λe=>H ⟨by omega,_,rfl,e⟩
   rw[show(grow (putRow a (Sort.ahead w n) g off (m.map c).toArray) d).heap=(putRow a (Sort.ahead w n) g off (m.map c).toArray).heap++d from rfl,Array.getElem?_append_left (by simpa using E)];simp[putRow,mapBlock,Array.getElem?_modify,Ne.symm b]
def sortI(l:List Int):List Int:=l.mergeSort λx y=>decide (x<=y)
theorem Qsr(A:Nat->Prop)(w0 w:World)(ao:Option Addr)(cap:Nat)(l:List Int)(h:Own Qh A w0 w 2 ao cap l)(j:l.length<=1000000):
 Calls prog 191 #[.slice ao l.length cap] w λe w'=>e=.returned (.tuple #[])/\Own Qh A w0 w' 2 ao cap (sortI l)/\Kept (Qc ao cap) w w':=by
 rcases Nat.eq_zero_or_pos l.length with a|a
 ·have b:l=[]:=List.eq_nil_of_length_eq_zero a
  subst b;refine(AnyM.slices_Sort_int_none Tryz.sortL ao cap w).mono ?_;rintro e w' ⟨rfl,rfl⟩;exact⟨rfl,by simpa[sortI] using h,Kept.refl _ _⟩
 ·obtain⟨g,off,rfl,b,f,c⟩:=Qf0 Qh (Value.int .i64) (λx=>x) rfl (λ_ _ _ _=>Iff.rfl) h a
  have d:=AnyM.slices_Sort_int Tryz.sortL g off cap l w (by simpa using b) f (by omega);refine d.mono ?_;rintro e w' ⟨rfl,n,i,rfl⟩;have:=c (sortI l) n i (by simp[sortI]);simp only[List.map_id']at this;exact⟨rfl,this⟩
theorem Qvo(A:Nat->Prop)(w0 w:World)(ao:Option Addr)(cap:Nat)(l:List ByteArray)(h:Own Xk A w0 w 9 ao cap l)(D:l.length<=1000000):
 Calls prog 318 #[.slice ao l.length cap] w λe w'=>e=.returned (.tuple #[])/\∃m:List ByteArray,m.Perm l/\(m.map λs=>s.data.toList).Pairwise (·<=·)/\Own Xk A w0 w' 9 ao cap m/\Kept (Qc ao cap) w w':=by
 rcases Nat.eq_zero_or_pos l.length with i|i
 ·have d:l=[]:=List.eq_nil_of_length_eq_zero i
  subst d;refine(AnyM.slices_Sort_string_none Tryz.sortS ao cap w).mono ?_;rintro e w' ⟨rfl,rfl⟩;exact⟨rfl,[],.refl _,by simp,h,Kept.refl _ _⟩
 ·obtain⟨g,off,rfl,t,z,v⟩:=Qf0 Xk encStr (λs=>s.data.toList) rfl (λ_ _ x _=>by simp[Xk,Rp.flat,encStr]) h i
  have o:=AnyM.slices_Sort_string Tryz.sortS g off cap (l.map λs=>s.data.toList) w t z (by simp;omega);rw[List.length_map]at o;refine o.mono ?_;rintro e w' ⟨rfl,n,C,rfl⟩;obtain⟨f,k⟩:=Zx ((l.map λs=>s.data.toList).mergeSort (λx y=>decide (x<=y)));have B:f.Perm (l.map λs=>s.data.toList):=by rw[k];exact List.mergeSort_perm _ _
  have q:f.Pairwise (·<=·):=by
   have j:=List.pairwise_mergeSort (le:=λx y:List UInt8=>decide (x<=y)) (λa b c j d=>by simp only[decide_eq_true_eq]at *;exact List.le_trans j d) (λa b=>by simp only[Bool.or_eq_true,decide_eq_true_eq];exact List.le_total a b) (l.map λs=>s.data.toList);rw[k];exact j.imp λh=>by simpa using h
  rw[<-k];obtain⟨m,j⟩:∃m:List ByteArray,m.map (λs=>s.data.toList)=f:=⟨f.map (λx=>⟨x.toArray⟩),by rw[List.map_map,show((λs:ByteArray=>s.data.toList) ∘ λx:List UInt8=>(⟨x.toArray⟩:ByteArray))=id from funext λx=>by simp,List.map_id]⟩;have p:m.Perm l:=by
   have d:=(j▸B).map λx:List UInt8=>(⟨x.toArray⟩:ByteArray)
   rw[List.map_map,List.map_map]at d;have r:((λx:List UInt8=>(⟨x.toArray⟩:ByteArray)) ∘ λs:ByteArray=>s.data.toList)=id:=funext λs=>by simp
   rw[r,List.map_id,List.map_id]at d;exact d
  rw[<-j]at q ⊢;exact⟨rfl,m,p,q,v m n C p.length_eq⟩
end Go.Proofs.YtkdpmdfcdgphlaaGreat
namespace Go.Po
open Go.Mem
def Fq(x:Int):Value:=.int .i64 x
def Xl{α:Type}(l:List (Int×α)):Prop:=(l.map (·.1)).Pairwise (·<·)
theorem Qh8{α:Type}{k:Int}{v:α}:∀{l:List (Int×α)} {x:Int},x∈(Kg k v l).map (·.1)↔x=k\/x∈l.map (·.1)
 | [],x=>by simp[Kg]
 | y::r,x=>by
  simp only[Kg];split
  ·simp
  ·simp only[List.map_cons,List.mem_cons,Qh8 (l:=r)]
   constructor
   ·rintro (h|h|h)
    ·exact .inr (.inl h)
    ·exact .inl h
    ·exact .inr (.inr h)
   ·rintro (h|h|h)
    ·exact .inr (.inl h)
    ·exact .inl h
    ·exact .inr (.inr h)
theorem Qo3{α:Type}{k:Int}{v:α}:∀{l:List (Int×α)},Xl l->k ∉ l.map (·.1)->Xl (Kg k v l)
 | [],_,_=>by simp[Xl,Kg]
 | y::r,h,hk=>by
  simp only[Xl,List.map_cons,List.pairwise_cons]at h;simp only[List.map_cons,List.mem_cons,not_or]at hk;simp only[Kg];split
  ·rename_i c
   simp only[Xl,List.map_cons,List.pairwise_cons,List.mem_cons];refine⟨λa b=>?_,h.1,h.2⟩;rcases b with rfl|b
   ·exact c
   ·have:=h.1 a b;omega
  ·rename_i c
   simp only[Xl,List.map_cons,List.pairwise_cons];refine⟨λa b=>?_,Qo3 h.2 hk.2⟩;rcases Qh8.1 b with rfl|b
   ·have:=hk.1;omega
   ·exact h.1 a b
theorem Qh9{α:Type}{k:Int}{l:List (Int×α)}{x:Int}:x∈(Xn k l).map (·.1)↔x≠k/\x∈l.map (·.1):=by
 simp only[Xn,List.mem_map,List.mem_filter,decide_eq_true_eq];constructor
 ·rintro⟨p,⟨b,a⟩,rfl⟩;exact⟨a,p,b,rfl⟩
 ·rintro⟨a,p,b,rfl⟩;exact⟨p,⟨b,a⟩,rfl⟩
theorem Qg8{α:Type}{k:Int}{l:List (Int×α)}(h:Xl l):Xl (Xn k l):=
 List.Pairwise.sublist (List.Sublist.map _ List.filter_sublist) h
theorem Rw{α:Type}{k:Int}{v:α}{l:List (Int×α)}(h:Xl l):Xl (Qo k v l):=
 Qo3 (Qg8 h) λh=>(Qh9.1 h).1 rfl
theorem Qek{α:Type}(k:Int)(v:α):∀l:List (Int×α),(Kg k v l).length=l.length+1
 | []=>rfl
 | y::r=>by simp only[Kg];split<;>simp[Qek k v r]
theorem putI_len{α:Type}(k:Int)(v:α)(l:List (Int×α)):(Qo k v l).length<=l.length+1:=by
 rw[Qo,Qek];have:(Xn k l).length<=l.length:=List.length_filter_le _ _;omega
theorem Qao{α:Type}{k:Int}{l:List (Int×α)}:(Qn k l).isSome=true↔k∈l.map (·.1):=by
 simp only[Qn,Option.isSome_map,List.find?_isSome,decide_eq_true_eq,List.mem_map]
theorem Xh{α:Type}{k:Int}{v:α}{l:List (Int×α)}(h:Qn k l=some v):(k,v)∈l:=by
 unfold Qn at h;rcases a:l.find? (λp=>decide (p.1=k))with _|p
 ·rw[a]at h;cases h
 ·rw[a]at h;cases h
  have b:=List.mem_of_find?_eq_some a;have c:p.1=k:=by simpa using List.find?_some a
  rw[<-c];exact b
theorem Qmf{α:Type}{k:Int}{v:α}{p:Int×α}:∀{l:List (Int×α)},p∈Kg k v l↔p=(k,v)\/p∈l
 | []=>by simp[Kg]
 | y::r=>by
  simp only[Kg];split
  ·simp
  ·simp only[List.mem_cons,Qmf (l:=r)]
   constructor
   ·rintro (h|h|h)
    ·exact .inr (.inl h)
    ·exact .inl h
    ·exact .inr (.inr h)
   ·rintro (h|h|h)
    ·exact .inr (.inl h)
    ·exact .inl h
    ·exact .inr (.inr h)
theorem Zt{α:Type}{k:Int}{v:α}{p:Int×α}{l:List (Int×α)}:p∈Qo k v l↔p=(k,v)\/(p∈l/\p.1≠k):=by
 rw[Qo,Qmf,Xn,List.mem_filter];simp
theorem Jo{α:Type}{k:Int}{p:Int×α}{l:List (Int×α)}:p∈Xn k l↔p∈l/\p.1≠k:=by simp[Xn]
theorem Pv{α:Type}{l:List (Int×α)}(h:Xl l){i:Nat}{k:Int}{v:α}(a:l[i]?=some (k,v)):Qn k l=some v:=by
 induction l generalizing i with
 | nil=>simp at a
 | cons y r ih=>
  simp only[Xl,List.map_cons,List.pairwise_cons]at h;rcases i with _|i
  ·simp at a;subst a;simp[Qn]
  ·rw[List.getElem?_cons_succ]at a
   have b:k∈r.map (·.1):=List.mem_map.2 ⟨(k,v),List.mem_of_getElem? a,rfl⟩;have:=h.1 k b;have c:¬y.1=k:=by omega
   have e:=ih h.2 a;unfold Qn at e ⊢;rw[List.find?_cons,show decide (y.1=k)=false from by simp[c]];exact e
theorem Qqq{α:Type}{k:Int}{v:α}:∀{b a:List (Int×α)},Xl (b++(k,v)::a)->Xn k (b++(k,v)::a)=b++a
 | b,a,h=>by
  simp only[Xl,List.map_append,List.map_cons,List.pairwise_append,List.pairwise_cons,List.mem_cons]at h;rw[Xn,List.filter_append,List.filter_cons_of_neg (by simp)];congr 1
  ·refine List.filter_eq_self.2 λp a=>?_
   have:=h.2.2 p.1 (List.mem_map.2 ⟨p,a,rfl⟩) k (.inl rfl);simp;omega
  ·refine List.filter_eq_self.2 λp a=>?_
   have:=h.2.1.1 p.1 (List.mem_map.2 ⟨p,a,rfl⟩);simp;omega
theorem Qmg{α:Type}{k:Int}{c:α}:∀{b a:List (Int×α)},(∀p∈b,p.1<k)->(∀p∈a,k<p.1)->Kg k c (b++a)=b++(k,c)::a
 | [],[],_,_=>rfl
 | [],y::r,_,h=>by simp only[List.nil_append,Kg];rw[if_pos (h y (by simp))]
 | x::b,a,h,h2=>by
  simp only[List.cons_append,Kg];rw[if_neg (by have:=h x (by simp);omega),Qmg (λp a=>h p (by simp[a])) h2]
theorem Gc{α:Type}{k:Int}{d v:α}{c b:List (Int×α)}(h:Xl (c++(k,v)::b)):Qo k d (c++(k,v)::b)=c++(k,d)::b:=by
 rw[Qo,Qqq h];simp only[Xl,List.map_append,List.map_cons,List.pairwise_append,List.pairwise_cons,List.mem_cons]at h;exact Qmg (λp a=>h.2.2 p.1 (List.mem_map.2 ⟨p,a,rfl⟩) k (.inl rfl)) λp a=>h.2.1.1 p.1 (List.mem_map.2 ⟨p,a,rfl⟩)
def older(l:List (Int×Int)):List (Int×Int):=l.map λp=>(p.1,p.2+1)
def late(most:Int)(l:List (Int×Int)):List Int:=((older l).filter λp=>decide (p.2>=most)).map (·.1)
theorem Qqr(l:List (Int×Int)):(older l).map (·.1)=l.map (·.1):=by simp[older]
theorem Qf7{l:List (Int×Int)}{i:Nat}{k a:Int}(m:Xl l)(d:l[i]?=some (k,a)):
 Qn k (older (l.take i)++l.drop i)=some a/\Qo k (a+1) (older (l.take i)++l.drop i)=older (l.take (i+1))++l.drop (i+1)/\Qn k (older (l.take (i+1))++l.drop (i+1))=some (a+1)/\Xl (older (l.take i)++l.drop i):=by
 obtain⟨o,n⟩:=List.getElem?_eq_some_iff.1 d;have c:l.drop i=(k,a)::l.drop (i+1):=by rw[List.drop_eq_getElem_cons o,n]
 have f:∀j,Xl (older (l.take j)++l.drop j):=λj=>by
  simp only[Xl,List.map_append,Qqr];rw[<-List.map_append,List.take_append_drop];exact m
 have b:=f i;have e:older (l.take (i+1))=older (l.take i)++[(k,a+1)]:=by
  rw[List.take_add_one,d];simp[older]
 have g:(older (l.take i)++l.drop i)[i]?=some (k,a):=by
  rw[List.getElem?_append_right (by simp[older];omega)];rw[show i-(older (l.take i)).length=0 by simp[older];omega,c];rfl
 have h:(older (l.take (i+1))++l.drop (i+1))[i]?=some (k,a+1):=by
  rw[e,List.append_assoc,List.getElem?_append_right (by simp[older];omega)];rw[show i-(older (l.take i)).length=0 by simp[older];omega];rfl
 refine⟨Pv b g,?_,Pv (f (i+1)) h,b⟩;rw[c]at b ⊢;rw[Gc b,e,List.append_assoc];rfl
theorem Qia{l:List (Int×Int)}{i:Nat}{k a:Int}(b:Int)(c:l[i]?=some (k,a)):late b (l.take (i+1))=late b (l.take i)++if a+1>=b then [k] else []:=by
 rw[List.take_add_one,c];simp only[late,older,Option.toList_some,List.map_append,List.filter_append,List.map_cons,List.map_nil];congr 1
 by_cases h:b<=a+1<;>simp[h]
theorem Qv0(a:Int)(l:List (Int×Int)):(late a l).length<=l.length:=by
 simp only[late,List.length_map];exact Nat.le_trans (List.length_filter_le _ _) (by simp[older])
end Go.Po
namespace Go.Proofs.YtkdpmdfcdgphlaaGreat
open Tryz
open Go.RowKit Go.Mem Go.Po Go.Maps
structure Xm(w:World)(b:Nat)(most:Int)(mb:Nat)(l:List (Int×Int)):Prop where
 blk:∃T,w.heap[b]?=some (.cells #[.int .i64 most,.map (some mb)] T (0,0))
 mp:Mp prog 2 w mb (iL Fq l)
 up:Xl l
 age:∀p∈l,0<=p.2/\p.2<=1000000000
 few:l.length<=100000
theorem Xm.keep{S:Nat->Prop}{w w':World}{b:Nat}{d:Int}{a:Nat}{l:List (Int×Int)}(h:Xm w b d a l)(c:Kept S w w')(k:¬S b)(m:¬S a):Xm w' b d a l:=by
 obtain⟨⟨T,e⟩,f,g,i,j⟩:=h;exact⟨⟨T,c.heap k e⟩,f.kept c m,g,i,j⟩
theorem Xm.bel{w w':World}{b:Nat}{c:Int}{a:Nat}{l:List (Int×Int)}(h:Xm w b c a l)(d:Bel w w'):Xm w' b c a l:=h.keep (d.kept λ_=>False) (λh=>h) λh=>h
theorem Xm.ne{w:World}{b:Nat}{g:Int}{c:Nat}{l:List (Int×Int)}(h:Xm w b g c l):b≠c:=λe=>by
 obtain⟨⟨T,a⟩,d,_⟩:=h;obtain⟨j,i,f,_⟩:=d.1;rw[e,f]at a;cases a
theorem Xm.ltb{w:World}{b:Nat}{d:Int}{c:Nat}{l:List (Int×Int)}(h:Xm w b d c l):b<w.heap.size:=by obtain⟨T,a⟩:=h.blk;exact Qb a
theorem Xm.ltm{w:World}{b:Nat}{c:Int}{a:Nat}{l:List (Int×Int)}(h:Xm w b c a l):a<w.heap.size:=h.mp.lt
theorem Xm.c1{w:World}{b:Nat}{d:Int}{a:Nat}{l:List (Int×Int)}(h:Xm w b d a l):w.cell? ⟨b,1,none⟩=some (.map (some a)):=by obtain⟨T,c⟩:=h.blk;exact cell_of_block c 1 _ rfl
theorem Xm.c0{w:World}{b:Nat}{a:Int}{d:Nat}{l:List (Int×Int)}(h:Xm w b a d l):w.cell? ⟨b,0,none⟩=some (.int .i64 a):=by obtain⟨T,c⟩:=h.blk;exact cell_of_block c 0 _ rfl
theorem Xm.look_ok{w:World}{b:Nat}{d:Int}{a:Nat}{l:List (Int×Int)}(h:Xm w b d a l){k:Int}(c:i64 k):(Instr.lookup 272 (.map (some a)) (.int .i64 k) true).run prog w=.ok (.tuple #[.int .i64 ((Qn k l).getD 0),.bool (Qn k l).isSome]) w:=by
 have:=h.mp.look_ok Yo underlying272 (zeroValue3 w) rfl (Cu c);rw[this,Vp];cases Qn k l<;>rfl
theorem Xm.look{w:World}{b:Nat}{d:Int}{a:Nat}{l:List (Int×Int)}(h:Xm w b d a l){k:Int}(c:i64 k):(Instr.lookup 272 (.map (some a)) (.int .i64 k) false).run prog w=.ok (.int .i64 ((Qn k l).getD 0)) w:=by
 have:=h.mp.look Yo underlying272 (zeroValue3 w) rfl (Cu c);rw[this,Vp];cases Qn k l<;>rfl
theorem Xm.put{w:World}{b:Nat}{i:Int}{c:Nat}{l:List (Int×Int)}(h:Xm w b i c l){k:Int}(o:i64 k){a:Int}(n:0<=a/\a<=1000000000)(q:(Qo k a l).length<=100000):
 ∃w',(Instr.mapUpdate 272 (.map (some c)) (.int .i64 k) (.int .i64 a)).run prog w=.ok () w'/\Xm w' b i c (Qo k a l)/\Kept (λj=>j=c) w w':=by
 obtain⟨s,r,g,f⟩:=h.mp.put Yo underlying272 (k:=.int .i64 k) (v:=.int .i64 a) (by have:=h.few;simp only[iL,List.length_map,maxLen];omega) (Cu o) rfl;have e:Wu (.int .i64 k) (.int .i64 a) (U1 (.int .i64 k) (iL Fq l))=iL Fq (Qo k a l):=by
  rw[Wv];exact Di Fq k a _
 rw[e]at g;obtain⟨T,m⟩:=h.blk;refine⟨s,r,⟨⟨T,f.heap h.ne m⟩,g,Rw h.up,λp d=>?_,q⟩,f⟩;rcases Zt.1 d with rfl|d
 ·exact n
 ·exact h.age p d.1
theorem Qap(a:Int)(w:World):
 Calls prog 194 #[.int .i64 a] w λe w'=>∃b c,e=.returned (.pointer (some ⟨b,0,none⟩))/\Xm w' b a c []/\Bel w w'/\w.heap.size<=b/\w.heap.size<=c:=by
 have d:∀w,(Instr.makeMap 272 none).run prog w=.ok (.map (some w.heap.size)) (w.alloc (.map #[] 0)):=λw=>rfl
 go_enter func194,ntmps194;go_wp2;go_ret;have c:=heap_alloc_new (w.alloc (.map #[] 0)) (.cells #[.int .i64 a,.map (some w.heap.size)] 274);refine⟨w.heap.size+1,w.heap.size,by simp,⟨⟨_,by simpa using c⟩,(Mp.made w _ _).bel ((Bel.refl _).alloc _),by simp[Xl],by simp,by simp⟩,((Bel.refl _).alloc _).alloc _,by simp,Nat.le_refl _⟩
theorem Qaq(k:Int)(f:i64 k)(w:World)(b:Nat)(i:Int)(g:Nat)(l:List (Int×Int))(h:Xm w b i g l):
 Calls prog 325 #[.pointer (some ⟨b,0,none⟩),.int .i64 k] w λe w'=>e=.returned (.int .i64 ((Qn k l).getD (-1)))/\w=w':=by
 have c1:=h.c1;have d:=h.look_ok f;clear h;rcases c:Qn k l with _|a
 ·rw[c]at d
  clear c;simp only[Option.getD_none,Option.isSome_none]at d ⊢;go_enter func325,ntmps325;go_wp2;go_ret;exact⟨rfl,rfl⟩
 ·rw[c]at d
  clear c;simp only[Option.getD_some,Option.isSome_some]at d ⊢;go_enter func325,ntmps325;go_wp2;go_ret;exact⟨rfl,rfl⟩
theorem Lj(k:Int)(m:i64 k)(w:World)(b:Nat)(i:Int)(g:Nat)(l:List (Int×Int))(h:Xm w b i g l):
 Calls prog 241 #[.pointer (some ⟨b,0,none⟩),.int .i64 k] w λe w'=>e=.returned (.bool (Qn k l).isSome)/\w=w':=by
 have c:=Qaq k m w b i g l h;have d:(decide ((Qn k l).getD (-1)>=0))=(Qn k l).isSome:=by
  rcases f:Qn k l with _|a
  ·rfl
  ·have:=(h.age _ (Xh f)).1
   simpa using this
 obtain⟨a,f⟩:=Zx ((Qn k l).getD (-1));rw[<-f]at d c;rw[<-d];have j:=Zh c;clear c d h f;go_enter func241,ntmps241;go_wp2_with fail;refine j.zS ?_;go_wp2;go_ret;exact⟨by rfl,rfl⟩
theorem Vi(k:Int)(g:i64 k)(w:World)(b:Nat)(f:Int)(c:Nat)(l:List (Int×Int))(h:Xm w b f c l)(r:(Qo k 0 l).length<=100000):
 Calls prog 233 #[.pointer (some ⟨b,0,none⟩),.int .i64 k] w λe w'=>e=.returned (.bool (!(Qn k l).isSome))/\Xm w' b f c (Qo k 0 l)/\Kept (λj=>j=c) w w':=by
 have d:=Lj k g w b f c l h;obtain⟨q,i⟩:=Zx ((Qn k l).isSome);rw[<-i]at d ⊢;clear i;have n:=Zh d;have c1:=h.c1;obtain⟨t,s,m,i⟩:=h.put g (a:=0) (by omega) r;obtain⟨p,o⟩:=Zh2 m i;clear h d m i;go_enter func233,ntmps233;go_wp2_with fail;refine n.zS ?_;go_wp2;go_ret;exact⟨rfl,p,o⟩
theorem P8(k:Int)(r:i64 k)(w:World)(b:Nat)(m:Int)(g:Nat)(l:List (Int×Int))(h:Xm w b m g l):
 Calls prog 147 #[.pointer (some ⟨b,0,none⟩),.int .i64 k] w λe w'=>e=.returned (.bool (Qn k l).isSome)/\Xm w' b m g (Xn k l)/\Kept (λj=>j=g) w w':=by
 have f:=Lj k r w b m g l h;have n:=Zh f;have c1:=h.c1;have d:=Zh h;obtain⟨x,v,c,i⟩:=h.mp.del Yo underlying272 (Cu r) 0;rw[Wv]at c;obtain⟨t,o⟩:=Zh2 c i;clear h f c i;rcases f:Qn k l with _|a
 ·have c:=n
  rw[f]at c;have h:=Zh c;have q:Xn k l=l:=by
   refine List.filter_eq_self.2 λp i=>?_
   simp only[decide_eq_true_eq];intro e;have:=Qao.2 (List.mem_map.2 ⟨p,i,e⟩);rw[f]at this;cases this
  have s:=Zh q;clear c f q;go_enter func147,ntmps147;go_wp2_with fail;refine h.zS ?_;go_wp2;go_ret;rw[s.o];exact⟨rfl,d,Kept.refl _ _⟩
 ·have c:=n
  rw[f]at c;have h:=Zh c;clear c f;go_enter func147,ntmps147;go_wp2_with fail;refine h.zS ?_;go_wp2;go_ret;obtain⟨T,c⟩:=d.blk;exact⟨rfl,⟨⟨T,o.heap d.ne c⟩,t,Qg8 d.up,λp i=>d.age p (Jo.1 i).1,Nat.le_trans (List.length_filter_le _ _) d.few⟩,o⟩
theorem Qf8(A:Nat->Prop)(w:World)(b:Nat)(m:Int)(a:Nat)(l:List (Int×Int))(h:Xm w b m a l):
 Calls prog 127 #[.pointer (some ⟨b,0,none⟩)] w λe w'=>∃ao cap,e=.returned (.slice ao l.length cap)/\Own Qh A w w' 2 ao cap (l.map (·.1))/\Bel w w':=by
 have c1:=h.c1;have H:=Zh h;clear h;go_enter func127,ntmps127;go_wp2_with fail;refine(Qst _ _).mono ?_;rintro e o ⟨rfl,rfl⟩;have c:Bel w (w.alloc (.cells #[.map (some a)] 272)):=(Bel.refl _).alloc _;have f:=Qnq Fq l H.up A _ a w.heap.size (by simp) (cell_of_block (heap_alloc_new w (.cells #[.map (some a)] 272)) 0 _ rfl) (H.mp.bel c) (by have:=H.few;omega);obtain⟨j,d⟩:=Zh2 f c;clear f c c1;go_wp2_with fail;refine j.mono ?_;rintro e p ⟨ao,cap,rfl,f,c⟩;obtain⟨i,g⟩:=Zh2 f (d.trans c);clear f c;go_wp2;go_ret;obtain⟨xs,c,f,n⟩:=i.o;exact⟨ao,cap,rfl,⟨xs,c,f,λk h=>Nat.le_trans d.size (n k h)⟩,g⟩
theorem Qo1:El prog 105 2 1 8:=El.mk' underlying105 (z:=.int .i64 0) (by kernel_rfl) rfl
theorem Qh6{l:List (Int×Int)}(h:∀p∈l,i64 p.1){i:Nat}{k a:Int}(b:l[i]?=some (k,a)):i64 k:=h _ (List.mem_of_getElem? b)
theorem Qdn(w:World)(b:Nat)(c:Int)(d:Nat)(l:List (Int×Int))(h:Xm w b c d l)(q:∀p∈l,i64 p.1)(o:∀p∈l,p.2<1000000000):
 Calls prog 212 #[.pointer (some ⟨b,0,none⟩)] w λe w'=>∃ao cap,e=.returned (.slice ao (late c l).length cap)/\Own Qh (λj=>j=d) w w' 2 ao cap (late c l)/\Xm w' b c d (older l)/\Kept (λj=>j=d) w w':=by
 obtain⟨H,U,ad⟩:=Zh3 h q o;obtain⟨n,f⟩:=Zx l.length;have ak:=h.few;rw[<-f]at ak;have C:=Zh f;have m:=Qf8 (λj=>j=d) w b c d l h;rw[<-f]at m;have ac:=Zh m;have az:=h.ltb;have a8:=h.ltm;clear h q o f m;go_enter func212,ntmps212;go_wp2_with fail;refine ac.mono ?_;rintro e f ⟨an,am,rfl,o,m⟩;have q:Rd Qh (λj=>j=d\/f.heap.size<=j) f an am (l.map (·.1)):=(o.rd λk h=>by omega).mono λk s h=>h.elim id λh=>by omega
 obtain⟨af,M⟩:=Zh2 q m;have a9:=m.size;clear o m q;go_wp2;go_loopw[3,9] (λlt a wr=>∃(i:Nat) (q:Option Addr) (o s:Nat),i<=n/\a=.int .i64 i/\lt=.slice q s o/\Hid (s=(late c (l.take i)).length)/\Hid (Own Qh (λj=>j=d) f wr 2 q o (late c (l.take i)))/\Hid (Xm wr b c d (older (l.take i)++l.drop i))/\Hid (Kept (λj=>j=d\/f.heap.size<=j) f wr)) (λ_ a _=>n-(intOf a).toNat)
 case atStart=>exact⟨0,none,0,0,Nat.zero_le _,rfl,rfl,Zh (by simp[late,older]),Zh (by simpa[late,older] using Own.nil Qh (λj=>j=d) f f 2),Zh (by simpa[older] using H.bel M.o),Zh (Kept.refl _ _)⟩
 case round=>
  obtain⟨i,q,o,s,ax,rfl,rfl,z,R,I,Q⟩:=hrel;by_cases au:i<n
  ·obtain⟨⟨k,a⟩,m⟩:∃x,l[i]?=some x:=⟨l[i]'(by have:=C.o;omega),by simp⟩
   have T:(l.map (·.1))[i]?=some k:=by simp[m]
   obtain⟨g,off,rfl,ar,X⟩:=Yf (af.keep (B:=λj=>j=d\/f.heap.size<=j) Q.o (λ_ h=>h) λ_ _ h=>h) T;have y:=Qf7 H.up m;have J:=Qh6 U m;have K:=I.look J;rw[y.1]at K;simp only[Option.getD_some]at K;have V:=ad _ (List.mem_of_getElem? m);have Y:=(H.age _ (List.mem_of_getElem? m)).1;dsimp only at V Y;have ab:IntKind.i64.wrap (a+1)=a+1:=by rw[IntKind.wrap_i64];omega
   obtain⟨L,aa,t,P⟩:=I.put J (a:=a+1) (by omega) (by
    rw[y.2.1];have:=C.o;simp[older];omega)
   rw[y.2.1]at t;have S:=t.look J;rw[y.2.2.1]at S;simp only[Option.getD_some]at S;have c1:wr.cell? ⟨b,1,none⟩=some (.map (some d)):=I.c1;have F:L.cell? ⟨b,1,none⟩=some (.map (some d)):=t.c1;have E:L.cell? ⟨b,0,none⟩=some (.int .i64 c):=t.c0;obtain⟨D,O,N⟩:=Zh3 m t (Q.trans (P.mono λ_ _ h=>.inl h));have G:Hid (∀k,Qc q o k->f.heap.size<=k):=Zh (by obtain⟨_,_,_,aj⟩:=R.o;exact aj);have W:Hid (Own Qh (λj=>j=d) f L 2 q o (late c (l.take i))):=Zh (R.keep (B:=λj=>j=d) P (λ_ h=>h) (λj h e=>by have:=G.o j h;subst e;omega) (λ_ _ h=>h));have av:(0:Int)<=(i:Int):=by omega
   have aw:(i:Int)<(n:Int):=by omega
   have aA:IntKind.i64.wrap ((i:Int)+1)=((i+1:Nat):Int):=by rw[IntKind.wrap_i64];omega
   have ay:s<=i:=by
    have v:=Qv0 c (l.take i);rw[<-z.o,List.length_take]at v;omega
   clear y t P m T J V Y;have Y:∀g:Up L,(Instr.lookup 272 (.map (some d)) (.int .i64 k) false).run prog g.wd=.ok (.int .i64 (a+1)) g.wd:=λg=>by
    have v:=(O.bel g.bel).look (Qh6 U D);rw[(Qf7 H.up D.o).2.2.1]at v;exact v
   clear S;by_cases Z:a+1>=c
   ·have t:=Zh (show late c (l.take (i+1))=late c (l.take i)++[k] by rw[Qia c D.o,if_pos Z])
    go_upto_region 6 with (fail);have S:=Up.cell E;have T:=Up.cell F;refine Qs (by kernel_rfl) (by kernel_rfl) ?_;repeat(go_big_quiet_step(fail))
    refine Xg λap y=>?_
    have m:=Zh y;clear y S T E F K Y c1 aa X ab;go_wp2_with(at_builtin;go_must (refine Xe (r:=Qh) (A:=λj=>j=d) (w0:=f) _ rfl _ _ 105 105 rfl Qo1 q s o (late c (l.take i)) z.o ((W.bel m.o).bel ((Bel.refl _).alloc _)) rfl _ rfl [k] [.int .i64 k] (Ch.one rfl rfl) (Rt _ underlying105 _ rfl _) (by simp;omega) (by omega) (by have v:=N.size;have aq:=m.size;simp;omega) ?_);intro ah ai aB P J al;have ae:=Zh P;have V:=Zh J;clear P J al);obtain⟨J,P⟩:=Zh2 ((N.trans ((m.alloc _).kept _)).trans (V.mono λk _ h=>.inr (G.o k h))) ((O.bel (m.alloc _)).keep V.o (λh=>by have:=G.o _ h;omega) λh=>by have:=G.o _ h;omega);go_roundw
    case rel=>exact⟨i+1,ah,ai,s+1,by omega,by go_num,by rfl,Zh (by rw[t.o,List.length_append,<-z.o];rfl),Zh (by rw[t.o];exact ae.o),P,J⟩
    case measure=>simp[intOf];omega
   ·have t:=Zh (show late c (l.take (i+1))=late c (l.take i) by rw[Qia c D.o,if_neg Z,List.append_nil])
    go_upto_region 6 with (fail);have S:=Up.cell E;have T:=Up.cell F;refine Qs (by kernel_rfl) (by kernel_rfl) ?_;repeat(go_big_quiet_step(fail))
    refine Xg λap y=>?_
    have m:=Zh y;clear y S T E F K Y c1 aa X ab;go_wp2;obtain⟨J,P⟩:=Zh2 (N.trans (m.kept _)) (O.bel m.o);go_roundw
    case rel=>exact⟨i+1,q,o,s,by omega,by go_num,by rfl,Zh (by rw[t.o];exact z.o),Zh (by rw[t.o];exact W.bel m.o),P,J⟩
    case measure=>simp[intOf];omega
  ·obtain rfl:i=n:=by omega
   go_wp2;go_ret;have m:l.take i=l:=List.take_of_length_le (by rw[<-C.o];exact Nat.le_refl _);have D:l.drop i=[]:=List.drop_eq_nil_of_le (by rw[<-C.o];exact Nat.le_refl _);have v:=I.o;have t:=R.o;have y:=z.o;rw[m,D,List.append_nil]at v;rw[m]at t y;obtain⟨xs,E,F,G⟩:=t;refine⟨q,o,by rw[<-y];rfl,⟨xs,E,F,λk h=>Nat.le_trans M.size (G k h)⟩,v,?_⟩;exact(M.kept _).trans' Q.o λk h=>h.imp id λh=>by omega
end Go.Proofs.YtkdpmdfcdgphlaaGreat
namespace Go.Po
open Go.Mem
structure Goes where
 n:Int
 puts:List Put
 age:Int
structure Gq where
 e:Nat
 ao:Option Addr
 cap:Nat
 g:Goes
def Gq.has(x:Gq)(k:Nat):Prop:=k=x.e\/Qc x.ao x.cap k
def gqV(x:Gq):Value:=.pointer (some ⟨x.e,0,none⟩)
def Qgw(p:Put):List Value:=[.string p.q,.string p.b]
def K4(L:List (Int×Gq)):List (Int×Int):=L.map λp=>(p.1,p.2.g.age)
def Zv(L:List (Int×Gq)):List (Int×Goes):=L.map λp=>(p.1,p.2.g)
theorem Qkv{α a:Type}(g:α->a)(k:Int)(v:α):∀l:List (Int×α),(Kg k v l).map (λp=>(p.1,g p.2))=Kg k (g v) (l.map λp=>(p.1,g p.2))
 | []=>rfl
 | y::r=>by
  simp only[Kg,List.map_cons];split
  ·rfl
  ·rw[List.map_cons,Qkv g k v r]
theorem Mv{α a:Type}(g:α->a)(k:Int)(l:List (Int×α)):(Xn k l).map (λp=>(p.1,g p.2))=Xn k (l.map λp=>(p.1,g p.2)):=by
 simp only[Xn,List.filter_map];rfl
theorem Tp{α a:Type}(g:α->a)(k:Int)(v:α)(l:List (Int×α)):(Qo k v l).map (λp=>(p.1,g p.2))=Qo k (g v) (l.map λp=>(p.1,g p.2)):=by
 unfold Qo;rw[Qkv,Mv]
theorem Tq{α a:Type}(g:α->a)(k:Int)(l:List (Int×α)):Qn k (l.map λp=>(p.1,g p.2))=(Qn k l).map g:=by
 unfold Qn;induction l with
 | nil=>rfl
 | cons y r ih=>
  simp only[List.map_cons,List.find?_cons];by_cases h:y.1=k
  ·simp[h]
  ·simp only[h,decide_false];exact ih
theorem Quy(k:Int)(x:Gq)(L:List (Int×Gq)):K4 (Qo k x L)=Qo k x.g.age (K4 L):=Tp (λx:Gq=>x.g.age) k x L
theorem Quz(k:Int)(L:List (Int×Gq)):K4 (Xn k L)=Xn k (K4 L):=Mv (λx:Gq=>x.g.age) k L
theorem Mw(k:Int)(L:List (Int×Gq)):Qn k (K4 L)=(Qn k L).map λx=>x.g.age:=Tq (λx:Gq=>x.g.age) k L
theorem Qhu(L:List (Int×Gq)):(K4 L).map (·.1)=L.map (·.1):=by simp[K4]
theorem Qkw(k:Int)(x:Gq)(L:List (Int×Gq)):Zv (Qo k x L)=Qo k x.g (Zv L):=Tp (λx:Gq=>x.g) k x L
theorem Qu0(k:Int)(L:List (Int×Gq)):Zv (Xn k L)=Xn k (Zv L):=Mv (λx:Gq=>x.g) k L
theorem Qkx(k:Int)(L:List (Int×Gq)):Qn k (Zv L)=(Qn k L).map λx=>x.g:=Tq (λx:Gq=>x.g) k L
def lkO(b lm tb tm:Nat)(L:List (Int×Gq))(k:Nat):Prop:=k=b\/k=lm\/k=tb\/k=tm\/∃p∈L,p.2.has k
def nOf(k:Int)(L:List (Int×Gq)):Int:=((Qn k L).map λx=>x.g.n).getD 0
def Jd(k:Int)(L:List (Int×Gq)):List Put:=((Qn k L).map λx=>x.g.puts).getD []
end Go.Po
namespace Go.Proofs.YtkdpmdfcdgphlaaGreat
open Tryz
open Go.RowKit Go.Mem Go.Po Go.Maps
structure Ws(w:World)(x:Gq):Prop where
 blk:w.heap[x.e]?=some (.cells #[.int .i64 x.g.n,.slice x.ao x.g.puts.length x.cap] 150 (0,0))
 sl:Sl w 33 2 x.ao x.g.puts.length x.cap (x.g.puts.flatMap Qgw)
 n:1<=x.g.n/\x.g.n<=10/\(x.g.puts.length:Int)<=x.g.n
theorem Ws.keep{S:Nat->Prop}{w w':World}{x:Gq}(h:Ws w x)(a:Kept S w w')(b:∀k,x.has k->¬S k):Ws w' x:=
 ⟨a.heap (b _ (.inl rfl)) h.blk,h.sl.kept a λk h=>b k (.inr h),h.n⟩
theorem Ws.lt{w:World}{x:Gq}(h:Ws w x){k:Nat}(a:x.has k):k<w.heap.size:=by
 rcases a with rfl|a
 ·exact Qb h.blk
 ·exact h.sl.owns a
theorem Ws.ne{w:World}{x:Gq}(h:Ws w x):¬Qc x.ao x.cap x.e:=fun⟨c,a,d,f⟩=>by
 obtain⟨g,off,i,b,_,e,_⟩:=h.sl.2.2.2 c;rw[d]at b;cases b;have:=h.blk;rw[f,e]at this;simp at this
structure Qy(w:World)(b lm tb tm:Nat)(L:List (Int×Gq)):Prop where
 blk:∃T,w.heap[b]?=some (.cells #[.map (some lm),.pointer (some ⟨tb,0,none⟩)] T (0,0))
 mp:Mp prog 2 w lm (iL gqV L)
 tim:Xm w tb 6 tm (K4 L)
 ent:∀p∈L,Ws w p.2
 sep:∀p∈L,∀q∈L,∀k,p.2.has k->q.2.has k->p=q
 sepb:∀p∈L,∀k,p.2.has k->k≠b/\k≠lm/\k≠tb/\k≠tm
 mm:lm≠tm
 k64:∀p∈L,i64 p.1
theorem Qy.lt{w:World}{b c d e:Nat}{L:List (Int×Gq)}(h:Qy w b c d e L){k:Nat}(a:lkO b c d e L k):k<w.heap.size:=by
 rcases a with rfl|rfl|rfl|rfl|⟨p,hp,a⟩
 ·obtain⟨T,f⟩:=h.blk;exact Qb f
 ·exact h.mp.lt
 ·exact h.tim.ltb
 ·exact h.tim.ltm
 ·exact(h.ent p hp).lt a
theorem Qy.keep{S:Nat->Prop}{w w':World}{b d e f:Nat}{L:List (Int×Gq)}(h:Qy w b d e f L)(a:Kept S w w')(c:∀k,lkO b d e f L k->¬S k):Qy w' b d e f L:=by
 obtain⟨⟨T,i⟩,j,l,m,n,o,q,r⟩:=h;exact⟨⟨T,a.heap (c _ (.inl rfl)) i⟩,j.kept a (c _ (.inr (.inl rfl))),l.keep a (c _ (.inr (.inr (.inl rfl)))) (c _ (.inr (.inr (.inr (.inl rfl))))),λp g=>(m p g).keep a λk a=>c k (.inr (.inr (.inr (.inr ⟨p,g,a⟩)))),n,o,q,r⟩
theorem Qy.bel{w w':World}{b a c d:Nat}{L:List (Int×Gq)}(h:Qy w b a c d L)(e:Bel w w'):Qy w' b a c d L:=h.keep (e.kept λ_=>False) λ_ _ h=>h
theorem Qy.up{w:World}{b a c d:Nat}{L:List (Int×Gq)}(h:Qy w b a c d L):Xl L:=by
 have:=h.tim.up;unfold Xl at this ⊢;rwa [Qhu]at this
theorem Qy.few{w:World}{b a c d:Nat}{L:List (Int×Gq)}(h:Qy w b a c d L):L.length<=100000:=by
 have:=h.tim.few;simpa[K4] using this
theorem Qy.nes{w:World}{b f d g:Nat}{L:List (Int×Gq)}(h:Qy w b f d g L):b≠f/\b≠d/\b≠g/\d≠f/\d≠g:=by
 obtain⟨T,a⟩:=h.blk;obtain⟨n,l,i,_⟩:=h.mp.1;obtain⟨k,c⟩:=h.tim.blk;obtain⟨o,m,j,_⟩:=h.tim.mp.1;refine⟨λe=>?_,λe=>?_,λe=>?_,λe=>?_,λe=>?_⟩
 ·rw[e,i]at a;cases a
 ·rw[e,c]at a;cases a
 ·rw[e,j]at a;cases a
 ·rw[e,i]at c;cases c
 ·rw[e,j]at c;cases c
theorem Qy.c0{w:World}{b a d e:Nat}{L:List (Int×Gq)}(h:Qy w b a d e L):w.cell? ⟨b,0,none⟩=some (.map (some a)):=by obtain⟨T,c⟩:=h.blk;exact cell_of_block c 0 _ rfl
theorem Qy.c1{w:World}{b d a e:Nat}{L:List (Int×Gq)}(h:Qy w b d a e L):w.cell? ⟨b,1,none⟩=some (.pointer (some ⟨a,0,none⟩)):=by obtain⟨T,c⟩:=h.blk;exact cell_of_block c 1 _ rfl
theorem Qfg{w:World}{a:Nat}{L:List (Int×Gq)}(h:Mp prog 2 w a (iL gqV L)){k:Int}(b:i64 k):(Instr.lookup 145 (.map (some a)) (.int .i64 k) false).run prog w=.ok (.pointer ((Qn k L).map λx=>⟨x.e,0,none⟩)) w:=by
 have:=h.look Yo underlying145 (zeroValue144 w) rfl (Cu b);rw[this,Vp];cases Qn k L<;>rfl
theorem Qy.look{w:World}{b a d e:Nat}{L:List (Int×Gq)}(h:Qy w b a d e L){k:Int}(c:i64 k):(Instr.lookup 145 (.map (some a)) (.int .i64 k) false).run prog w=.ok (.pointer ((Qn k L).map λx=>⟨x.e,0,none⟩)) w:=by
 exact Qfg h.mp c
theorem Qy.at{w:World}{b c d e:Nat}{L:List (Int×Gq)}(h:Qy w b c d e L){k:Int}{x:Gq}(a:Qn k L=some x):w.cell? ⟨x.e,0,none⟩=some (.int .i64 x.g.n)/\w.cell? ⟨x.e,1,none⟩=some (.slice x.ao x.g.puts.length x.cap):=by
 have:=(h.ent _ (Xh a)).blk;exact⟨cell_of_block this 0 _ rfl,cell_of_block this 1 _ rfl⟩
theorem Qy.putE{w:World}{b a m n:Nat}{L:List (Int×Gq)}(h:Qy w b a m n L){k:Int}(f:i64 k)(e:Nat):
 ∃w',(Instr.mapUpdate 145 (.map (some a)) (.int .i64 k) (.pointer (some ⟨e,0,none⟩))).run prog w=.ok () w'/\(∀x:Gq,x.e=e->Mp prog 2 w' a (iL gqV (Qo k x L)))/\Kept (λj=>j=a) w w':=by
 obtain⟨o,i,c,g⟩:=h.mp.put Yo underlying145 (k:=.int .i64 k) (v:=.pointer (some ⟨e,0,none⟩)) (by have:=h.few;simp only[iL,List.length_map,maxLen];omega) (Cu f) rfl;refine⟨o,i,λx l=>?_,g⟩;have d:Wu (.int .i64 k) (.pointer (some ⟨e,0,none⟩)) (U1 (.int .i64 k) (iL gqV L))=iL gqV (Qo k x L):=by
  rw[Wv,<-l];exact Di gqV k x _
 rw[d]at c;exact c
theorem Qc8(w:World):
 Calls prog 109 #[] w λe w'=>∃b d a c,e=.returned (.pointer (some ⟨b,0,none⟩))/\Qy w' b d a c []/\Bel w w'/\∀k,lkO b d a c [] k->w.heap.size<=k:=by
 have l:∀w,(Instr.makeMap 145 none).run prog w=.ok (.map (some w.heap.size)) (w.alloc (.map #[] 0)):=λw=>rfl
 go_enter func109,ntmps109;go_wp2_with fail;refine(Qap _ _).mono ?_;rintro e m ⟨a,c,rfl,g,f,i,j⟩;obtain⟨h,d⟩:=Zh2 g f;clear g f;go_wp2;go_ret;have f:(w.alloc (.map #[] 0)).heap.size=w.heap.size+1:=by simp
 rw[f]at i j;refine⟨_,w.heap.size,a,c,rfl,⟨⟨_,heap_alloc_new _ _⟩,((Mp.made w _ _).bel d.o).bel ((Bel.refl _).alloc _),h.bel ((Bel.refl _).alloc _),by simp,by simp,by simp,by omega,by simp⟩,((Bel.refl w).alloc _).trans (d.alloc _),?_⟩;have:=d.size;rw[f]at this;rintro k (rfl|rfl|rfl|rfl|⟨p,hp,_⟩)
 ·omega
 ·omega
 ·omega
 ·omega
 ·simp at hp
theorem Ko(k:Int)(d:i64 k)(w:World)(b f g i:Nat)(L:List (Int×Gq))(h:Qy w b f g i L):
 Calls prog 28 #[.pointer (some ⟨b,0,none⟩),.int .i64 k] w λe w'=>e=.returned (.int .i64 (nOf k L))/\w=w':=by
 have c0:=h.c0;have c:=h.look d;have l:=h.lt (k:=b) (.inl rfl);rcases a:Qn k L with _|x
 ·rw[a]at c
  rw[nOf,a];clear h a;simp only[Option.map_none]at c;go_enter func28,ntmps28;go_wp2;go_ret;exact⟨rfl,rfl⟩
 ·have j:=(h.at a).1
  rw[a]at c;rw[nOf,a];clear h a;simp only[Option.map_some]at c;go_enter func28,ntmps28;go_wp2;go_ret;exact⟨rfl,rfl⟩
def Ph(x:Gq):Gq:=⟨x.e,x.ao,x.cap,⟨x.g.n+1,x.g.puts,0⟩⟩
def Cm(e:Nat):Gq:=⟨e,none,0,⟨1,[],0⟩⟩
theorem Qr1{α:Type}{k:Int}{v:α}:∀{l:List (Int×α)},k ∉ l.map (·.1)->Qn k (Kg k v l)=some v
 | [],_=>by simp[Kg,Qn]
 | y::r,h=>by
  simp only[List.map_cons,List.mem_cons,not_or]at h;simp only[Kg];split
  ·simp[Qn]
  ·have a:¬y.1=k:=λe=>h.1 e.symm
   have:=Qr1 (v:=v) h.2;unfold Qn at this ⊢;rw[List.find?_cons,show decide (y.1=k)=false from by simp[a]];exact this
theorem Qfh{α:Type}{k:Int}{c v:α}{l:List (Int×α)}(h:Xl l):Qo k v (Qo k c l)=Qo k v l:=by
 have e:Xn k (Qo k c l)=Xn k l:=by
  have:∀m:List (Int×α),k ∉ m.map (·.1)->Xn k (Kg k c m)=m:=by
   intro m a;induction m with
   | nil=>simp[Kg,Xn]
   | cons y r ih=>
    simp only[List.map_cons,List.mem_cons,not_or]at a;have d:¬y.1=k:=λe=>a.1 e.symm
    simp only[Kg];split
    ·rw[Xn,List.filter_cons_of_neg (by simp)]
     refine List.filter_eq_self.2 λp b=>?_
     rcases List.mem_cons.1 b with rfl|b
     ·simpa using d
     ·simp only[decide_eq_true_eq];intro e;exact a.2 (List.mem_map.2 ⟨p,b,e⟩)
    ·rw[Xn,List.filter_cons_of_pos (by simpa using d)]
     congr 1
     exact ih a.2
  exact this _ λh=>(Qh9.1 h).1 rfl
 rw[Qo,e];rfl
theorem Qy.set{w w':World}{b g h i:Nat}{L:List (Int×Gq)}(A:Qy w b g h i L)(k:Int)(H:i64 k)(x:Gq)
 (F:w'.heap[b]?=w.heap[b]?) (J:Mp prog 2 w' g (iL gqV (Qo k x L))) (M:Xm w' h 6 i (Qo k x.g.age (K4 L))) (N:Ws w' x)
 (G:∀p∈L,p.1≠k->Ws w' p.2) (v:∀j,x.has j->(∃y,Qn k L=some y/\y.has j)\/w.heap.size<=j):Qy w' b g h i (Qo k x L):=by
 obtain⟨⟨T,o⟩,B,r,C,s,t,D,E⟩:=A;have I:∀p∈L,∀j,p.2.has j->j<w.heap.size:=λp a j d=>(C p a).lt d
 have O:b<w.heap.size/\g<w.heap.size/\h<w.heap.size/\i<w.heap.size:=⟨Qb o,B.lt,r.ltb,r.ltm⟩;have z:∀p∈L,p.1≠k->∀j,x.has j->¬p.2.has j:=λp a c j d e=>by
  rcases v j d with⟨y,m,n⟩|K
  ·have:=s p a (k,y) (Xh m) j e n
   rw[this]at c;exact c rfl
  ·have:=I p a j e;omega
 refine⟨⟨T,F.trans o⟩,J,by rw[Quy];exact M,λp a=>?_,λp a q f j l e=>?_,λp a j d=>?_,D,λp a=>?_⟩
 ·rcases Zt.1 a with rfl|⟨a,c⟩
  ·exact N
  ·exact G p a c
 ·rcases Zt.1 a with rfl|⟨a,c⟩<;>rcases Zt.1 f with rfl|⟨f,hne2⟩
  ·rfl
  ·exact absurd e (z q f hne2 j l)
  ·exact absurd l (z p a c j e)
  ·exact s p a q f j l e
 ·rcases Zt.1 a with rfl|⟨a,c⟩
  ·rcases v j d with⟨y,m,n⟩|K
   ·exact t _ (Xh m) j n
   ·omega
  ·exact t p a j d
 ·rcases Zt.1 a with rfl|⟨a,_⟩
  ·exact H
  ·exact E p a
theorem D5{α:Type}{k:Int}{v e:α}{l:List (Int×α)}(h:Qn k l=some e):(Qo k v l).length<=l.length:=by
 rw[Qo,Qek];have c:=Qao.1 (show(Qn k l).isSome=true by rw[h];rfl);have:(Xn k l).length<l.length:=by
  obtain⟨p,d,b⟩:=List.mem_map.1 c;rw[Xn,<-List.countP_eq_length_filter];have f:=List.length_eq_countP_add_countP (λp:Int×α=>decide (p.1≠k)) (l:=l);have g:0<List.countP (λa:Int×α=>!decide (a.1≠k)) l:=List.countP_pos_iff.2 ⟨p,d,by simpa using b⟩;have i:List.countP (λa:Int×α=>decide ¬decide (a.1≠k)=true) l=List.countP (λa:Int×α=>!decide (a.1≠k)) l:=by
   congr 1;funext a;by_cases h:a.1=k<;>simp[h]
  omega
 omega
theorem Qy.counted{w c:World}{b q r n:Nat}{L:List (Int×Gq)}(h:Qy w b q r n L){k:Int}{x:Gq}(t:Qn k L=some x)(F:x.g.n<10)(E:Xm c r 6 n (Qo k 0 (K4 L)))(d:Kept (λj=>j=n) w c):
 Qy (c.setCell ⟨x.e,0,none⟩ (.int .i64 (x.g.n+1))) b q r n (Qo k (Ph x) L):=by
 have g:=Xh t;have D:=h.nes;have m:Ws w x:=h.ent _ g;have y:=λj a=>h.sepb _ g j a
 have f:Kept (λj=>j=x.e) c (c.setCell ⟨x.e,0,none⟩ (.int .i64 (x.g.n+1))):=Kept.set1 _ _ _ _;have l:=y x.e (.inl rfl);have C:Mp prog 2 c q (iL gqV L):=h.mp.kept d (λe=>h.mm e);have A:iL gqV (Qo k (Ph x) L)=iL gqV L:=by
  obtain⟨i,z⟩:=List.mem_iff_getElem?.1 g;obtain⟨B,v⟩:=List.getElem?_eq_some_iff.1 z;have s:L=L.take i++(k,x)::L.drop (i+1):=by rw[<-v,<-List.drop_eq_getElem_cons B,List.take_append_drop]
  have o:=h.up;rw[s]at o ⊢;rw[Gc o];simp[iL,gqV,Ph]
 refine h.set k (h.k64 _ g) (Ph x) ?_ ?_ ?_ ?_ (λp o v=>?_) (λj a=>.inl ⟨x,t,a⟩)
 ·obtain⟨T,s⟩:=h.blk
  rw[s];exact f.heap (λe=>l.1 e.symm) (d.heap D.2.2.1 s)
 ·rw[A];exact C.kept f λe=>l.2.1 e.symm
 ·exact E.keep f (λe=>l.2.2.1 e.symm) λe=>l.2.2.2 e.symm
 ·have s:=d.heap l.2.2.2 m.blk
  have z:=Yp c x.e 0 (.int .i64 (x.g.n+1)) s;refine⟨z,(m.sl.kept d λj a e=>(y j (.inr a)).2.2.2 e).kept f λj a e=>m.ne (e▸a),?_⟩;have:=m.n;simp only[Ph];omega
 ·refine((h.ent p o).keep d λj a e=>(h.sepb p o j a).2.2.2 e).keep f λj a e=>?_
  have:=h.sep p o (k,x) g j a (.inl e);rw[this]at v;exact v rfl
theorem Qky(k:Int)(d:i64 k)(w:World)(b c f g:Nat)(L:List (Int×Gq))(h:Qy w b c f g L)(x:Gq)(a:Qn k L=some x)(y:x.g.n<10):
 Calls prog 143 #[.pointer (some ⟨b,0,none⟩),.int .i64 k] w λe w'=>e=.returned (.pointer (some ⟨x.e,0,none⟩))/\Qy w' b c f g (Qo k (Ph x) L)/\Kept (lkO b c f g L) w w':=by
 obtain⟨H,n⟩:=Zh2 h (Ko k d w b c f g L h);rw[nOf,a]at n;simp only[Option.map_some,Option.getD_some]at n;have c0:=h.c0;have c1:=h.c1;have r:=h.look d;rw[a]at r;simp only[Option.map_some]at r;have l:Ws w x:=h.ent _ (Xh a);have G:=h.nes;have q:=h.sepb _ (Xh a) x.e (.inl rfl);have m:=Vi k d w f 6 g (K4 L) h.tim (by
  have i:=D5 (v:=(0:Int)) (show Qn k (K4 L)=some x.g.age by rw[Mw,a];rfl);have:=h.tim.few;omega)
 obtain⟨C,i⟩:=Zh2 m a;have K:decide (x.g.n>=10)=false:=by simpa using y
 have A:=Zh l;have M:IntKind.i64.wrap (x.g.n+1)=x.g.n+1:=by have:=l.n;rw[IntKind.wrap_i64];omega
 clear h a l m;go_enter func143,ntmps143;go_wp2_with fail;refine n.zS ?_;go_wp2_with fail;refine C.mono ?_;rintro e m ⟨rfl,z,a⟩;have F:m.cell? ⟨b,0,none⟩=some (.map (some c)):=a.cell G.2.2.1 c0;have p:Mp prog 2 m c (iL gqV L):=H.mp.kept a (λe=>H.mm e);have s:=Qfg p d;rw[i.o]at s;simp only[Option.map_some]at s;have o:=a.heap q.2.2.2 A.blk;have e0:=cell_of_block o 0 _ rfl;have J:=Qa o 0;have l:Kept (λj=>j=x.e) m (m.setCell ⟨x.e,0,none⟩ (.int .i64 (x.g.n+1))):=Kept.set1 _ _ _ _;have I:=l.cell (λe=>q.1 e.symm) F;have t:=Qfg (p.kept l λe=>q.2.1 e.symm) d;rw[i.o]at t;simp only[Option.map_some]at t;obtain⟨B,D,E⟩:=Zh3 (H.counted i.o y z a) a l;clear z a p o l;go_wp2;go_ret;refine⟨rfl,B,(D.mono λj _ h=>.inr (.inr (.inr (.inl h)))).trans (E.mono λj _ h=>?_)⟩;subst h;exact .inr (.inr (.inr (.inr ⟨_,Xh i.o,.inl rfl⟩)))
end Go.Proofs.YtkdpmdfcdgphlaaGreat
namespace Go.Po
open Go.Mem
def Ro(k:Int)(L:List (Int×Gq)):Goes:=⟨nOf k L+1,Jd k L,0⟩
theorem F4{b a c d:Nat}{L:List (Int×Gq)}{k:Int}{x:Gq}{N:Nat}(e:∀j,x.has j->lkO b a c d L j\/N<=j):∀j,lkO b a c d (Qo k x L) j->lkO b a c d L j\/N<=j:=by
 rintro j (h|h|h|h|⟨p,hp,hj⟩)
 ·exact .inl (.inl h)
 ·exact .inl (.inr (.inl h))
 ·exact .inl (.inr (.inr (.inl h)))
 ·exact .inl (.inr (.inr (.inr (.inl h))))
 ·rcases Zt.1 hp with rfl|⟨hp,_⟩
  ·exact e j hj
  ·exact .inl (.inr (.inr (.inr (.inr ⟨p,hp,hj⟩))))
theorem Qx2{b a c d:Nat}{L:List (Int×Gq)}{k:Int}:∀j,lkO b a c d (Xn k L) j->lkO b a c d L j:=by
 rintro j (h|h|h|h|⟨p,hp,hj⟩)
 ·exact .inl h
 ·exact .inr (.inl h)
 ·exact .inr (.inr (.inl h))
 ·exact .inr (.inr (.inr (.inl h)))
 ·exact .inr (.inr (.inr (.inr ⟨p,(Jo.1 hp).1,hj⟩)))
end Go.Po
namespace Go.Proofs.YtkdpmdfcdgphlaaGreat
open Tryz
open Go.RowKit Go.Mem Go.Po Go.Maps
theorem Qkz(k:Int)(g:i64 k)(w:World)(b c d f:Nat)(L:List (Int×Gq))(h:Qy w b c d f L)(o:Qn k L=none)(U:L.length<100000):
 Calls prog 143 #[.pointer (some ⟨b,0,none⟩),.int .i64 k] w λe w'=>e=.returned (.pointer (some ⟨w.heap.size,0,none⟩))/\Qy w' b c d f (Qo k (Cm w.heap.size) L)/\Kept (lkO b c d f L) w w':=by
 obtain⟨H,v⟩:=Zh2 h (Ko k g w b c d f L h);rw[nOf,o]at v;simp only[Option.map_none,Option.getD_none]at v;have c0:=h.c0;have c1:=h.c1;have B:=h.look g;rw[o]at B;simp only[Option.map_none]at B;have n:=h.nes;have E:=h.mm;have m:=λj a=>h.lt (k:=j) a
 have V:=m b (.inl rfl);have W:=m c (.inr (.inl rfl));have X:=m d (.inr (.inr (.inl rfl)));have Y:=m f (.inr (.inr (.inr (.inl rfl))));have i:Bel w (w.alloc (.cells #[.int .i64 0,.slice none 0 0] 150)):=(Bel.refl _).alloc _;obtain⟨q,Z,y,l⟩:=(h.bel i).putE g w.heap.size;have z:Xm q d 6 f (K4 L):=(h.tim.bel i).keep l n.2.2.2.1 λe=>E e.symm
 have x:=Vi k g q d 6 f (K4 L) z (by have:=putI_len k 0 (K4 L);have e:(K4 L).length=L.length:=(by simp[K4]);omega);have A:Qn k (K4 L)=none:=by rw[Mw,o];rfl
 have I:=Zh x;have P:q.cell? ⟨b,1,none⟩=some (.pointer (some ⟨d,0,none⟩)):=l.cell n.1 (i.cell c1);have O:∀r,(w.alloc r).cell? ⟨b,0,none⟩=some (.map (some c)):=λr=>((Bel.refl w).alloc r).cell c0
 have J:=Zh y;have r:q.heap[w.heap.size]?=some (.cells #[.int .i64 0,.slice none 0 0] 150 (0,0)):=l.heap (λe=>by omega) (heap_alloc_new _ _);obtain⟨G,s,t⟩:=Zh3 r i l;have K:q.cell? ⟨b,0,none⟩=some (.map (some c)):=l.cell n.1 (i.cell c0);clear h o i y l z x A r m;go_enter func143,ntmps143;go_wp2_with fail;refine v.zS ?_;go_wp2_with fail;refine I.mono ?_;rintro e m ⟨rfl,F,i⟩;have e0:m.cell? ⟨b,0,none⟩=some (.map (some c)):=i.cell n.2.2.1 K;have x:Mp prog 2 m c (iL gqV (Qo k (Cm w.heap.size) L)):=(J.o _ rfl).kept i (λe=>E e);have C:=Qfg x g;rw[Na]at C;simp only[Option.map_some,Cm]at C;have r:=i.heap (show ¬w.heap.size=f by omega) G.o;have R:=cell_of_block r 0 _ rfl;have S:=Qa r 0;have l:Kept (λj=>j=w.heap.size) m (m.setCell ⟨w.heap.size,0,none⟩ (.int .i64 1)):=Kept.set1 _ _ _ _;have Q:=l.cell (show ¬b=w.heap.size by omega) e0;have y:=x.kept l (show ¬c=w.heap.size by omega);have D:=Qfg y g;rw[Na]at D;simp only[Option.map_some,Cm]at D;have z:Hid (Qy (m.setCell ⟨w.heap.size,0,none⟩ (.int .i64 1)) b c d f (Qo k (Cm w.heap.size) L)/\Kept (lkO b c d f L) w (m.setCell ⟨w.heap.size,0,none⟩ (.int .i64 1))):=Zh (by
  have N:=Yp m w.heap.size 0 (.int .i64 1) r;have M:∀p∈L,∀j,p.2.has j->j<w.heap.size:=λp o j a=>(H.ent p o).lt a
  refine⟨H.set k g (Cm w.heap.size) ?_ y (F.keep l (by omega) (by omega)) ⟨N,Sl.nil _ _ _,by simp[Cm]⟩ (λp o _=>?_) (λj a=>.inr ?_),?_⟩
  ·obtain⟨T,A⟩:=H.blk
   rw[A];exact l.heap (by omega) (i.heap n.2.2.1 (t.heap n.1 (s.heap A)))
  ·refine((((H.ent p o).keep (s.kept λ_=>False) λ_ _ h=>h).keep t λj a e=>?_).keep i λj a e=>?_).keep l λj a e=>?_
   ·exact(H.sepb p o j a).2.1 e
   ·exact(H.sepb p o j a).2.2.2 e
   ·have:=M p o j a;omega
  ·rcases a with rfl|a
   ·exact Nat.le_refl _
   ·exact absurd a.1 (by simp[Cm])
  ·refine(((s.kept _).trans (t.mono λj _ h=>.inr (.inl h))).trans (i.mono λj _ h=>.inr (.inr (.inr (.inl h))))).trans' l λj h=>.inr (by omega))
 clear F i x r l y;go_wp2;go_ret;exact⟨rfl,z.1,z.2⟩
theorem Qbr(k:Int)(m:i64 k)(w:World)(b c d f:Nat)(L:List (Int×Gq))(l:Qy w b c d f L)(o:nOf k L<10)(n:L.length<100000):
 Calls prog 143 #[.pointer (some ⟨b,0,none⟩),.int .i64 k] w λe w'=>∃x:Gq,e=.returned (.pointer (some ⟨x.e,0,none⟩))/\x.g=Ro k L/\Qy w' b c d f (Qo k x L)/\Kept (lkO b c d f L) w w'/\∀j,x.has j->lkO b c d f L j\/w.heap.size<=j:=by
 rcases a:Qn k L with _|x
 ·refine(Qkz k m w b c d f L l a n).mono ?_
  rintro e w' ⟨rfl,h,i⟩;refine⟨_,rfl,by simp[Cm,Ro,nOf,Jd,a],h,i,λj g=>.inr ?_⟩;rcases g with rfl|g
  ·exact Nat.le_refl _
  ·exact absurd g.1 (by simp[Cm])
 ·have p:nOf k L=x.g.n:=by simp[nOf,a]
  refine(Qky k m w b c d f L l x a (by omega)).mono ?_;rintro e w' ⟨rfl,h,i⟩;refine⟨Ph x,rfl,by simp[Ph,Ro,nOf,Jd,a],h,i,λj g=>.inl (.inr (.inr (.inr (.inr ⟨_,Xh a,g⟩))))⟩
theorem Qbs(k:Int)(hk:i64 k)(w:World)(b lm tb tm:Nat)(L:List (Int×Gq))(h:Qy w b lm tb tm L)(hn:nOf k L<10)(hl:L.length<100000):
 Calls prog 77 #[.pointer (some ⟨b,0,none⟩),.int .i64 k] w λe w'=>e=.returned (.bool true)/\∃x:Gq,x.g=Ro k L/\Qy w' b lm tb tm (Qo k x L)/\Kept (lkO b lm tb tm L) w w'/\∀j,x.has j->lkO b lm tb tm L j\/w.heap.size<=j:=by
 have HM:=Zh (Qbr k hk w b lm tb tm L h hn hl);clear h;go_enter func77,ntmps77;go_wp2_with fail;refine HM.mono ?_;rintro e w1 ⟨x,rfl,h1,h2,h3,h4⟩;have H1:=Zh (And.intro h1 (And.intro h2 (And.intro h3 h4)));clear h1 h2 h3 h4;go_wp2;go_ret;exact⟨rfl,x,H1⟩
theorem Mx(A:Nat->Prop)(w:World)(b i f g:Nat)(L:List (Int×Gq))(h:Qy w b i f g L):
 Calls prog 46 #[.pointer (some ⟨b,0,none⟩)] w λe w'=>∃ao cap,e=.returned (.slice ao L.length cap)/\Own Qh A w w' 2 ao cap (L.map (·.1))/\Bel w w':=by
 have a:=Zh (Qf8 A w f 6 g (K4 L) h.tim);rw[Qhu,show(K4 L).length=L.length by simp[K4]]at a;have c1:=h.c1;clear h;go_enter func46,ntmps46;go_wp2_with fail;refine a.mono ?_;rintro e j ⟨ao,cap,rfl,c,d⟩;have h:=Zh (And.intro c d);clear c d;go_wp2;go_ret;exact⟨ao,cap,rfl,h⟩
theorem Tt{α:Type}{k:Int}{v:α}{l:List (Int×α)}(h:Qn k l=some v):∃b a,l=b++(k,v)::a:=by
 obtain⟨i,b⟩:=List.mem_iff_getElem?.1 (Xh h);obtain⟨c,a⟩:=List.getElem?_eq_some_iff.1 b;exact⟨l.take i,l.drop (i+1),by rw[<-a,<-List.drop_eq_getElem_cons c,List.take_append_drop]⟩
theorem Qr2{α:Type}{k:Int}{v:α}{l:List (Int×α)}(a:Xl l)(h:Qn k l=some v):Qo k v l=l:=by
 obtain⟨c,b,rfl⟩:=Tt h;exact Gc a
theorem Qoi{k:Int}{x y:Gq}{L:List (Int×Gq)}(b:Xl L)(h:Qn k L=some x)(a:y.e=x.e):iL gqV (Qo k y L)=iL gqV L:=by
 obtain⟨d,c,rfl⟩:=Tt h;rw[Gc b];simp[iL,gqV,a]
def Qi3(x:Gq):Gq:=⟨x.e,x.ao,x.cap,⟨x.g.n,x.g.puts,0⟩⟩
theorem Qy.heard{w m:World}{b n l d:Nat}{L:List (Int×Gq)}(h:Qy w b n l d L){k:Int}{x:Gq}(g:Qn k L=some x)(r:Xm m l 6 d (Qo k 0 (K4 L)))(c:Kept (λj=>j=d) w m):
 Qy m b n l d (Qo k (Qi3 x) L):=by
 have i:=Xh g;have q:=h.nes;have o:=h.ent _ i;refine h.set k (h.k64 _ i) (Qi3 x) ?_ ?_ r ?_ (λp f _=>(h.ent p f).keep c λj a e=>(h.sepb p f j a).2.2.2 e) (λj a=>.inl ⟨x,g,a⟩)
 ·obtain⟨T,f⟩:=h.blk
  rw[f];exact c.heap q.2.2.1 f
 ·rw[Qoi (y:=Qi3 x) h.up g rfl];exact h.mp.kept c (λe=>h.mm e)
 ·have f:=o.keep c λj a e=>(h.sepb _ i j a).2.2.2 e
  exact⟨f.blk,f.sl,f.n⟩
theorem Qik(k:Int)(m:i64 k)(w:World)(b f c d:Nat)(L:List (Int×Gq))(h:Qy w b f c d L)(x:Gq)(a:Qn k L=some x):
 Calls prog 223 #[.pointer (some ⟨b,0,none⟩),.int .i64 k] w λe w'=>e=.returned (.bool true)/\Qy w' b f c d (Qo k (Qi3 x) L)/\Kept (lkO b f c d L) w w':=by
 obtain⟨H,g⟩:=Zh2 h (Ko k m w b f c d L h);rw[nOf,a]at g;simp only[Option.map_some,Option.getD_some]at g;have c1:=h.c1;have i:Ws w x:=h.ent _ (Xh a);have l:=Vi k m w c 6 d (K4 L) h.tim (by
  have n:=D5 (v:=(0:Int)) (show Qn k (K4 L)=some x.g.age by rw[Mw,a];rfl);have:=h.tim.few;omega)
 obtain⟨o,n⟩:=Zh2 l a;have q:(x.g.n==0)=false:=by have:=i.n;simp;omega
 clear h a i l;go_enter func223,ntmps223;go_wp2_with fail;refine g.zS ?_;go_wp2_with fail;refine o.mono ?_;rintro e r ⟨rfl,i,a⟩;obtain⟨l,p⟩:=Zh2 (H.heard n.o i a) a;clear i a;go_wp2;go_ret;exact⟨rfl,l,p.mono λj _ h=>.inr (.inr (.inr (.inl h)))⟩
theorem Qk0(k:Int)(i:i64 k)(w:World)(b d f g:Nat)(L:List (Int×Gq))(h:Qy w b d f g L)(c:Qn k L=none):
 Calls prog 223 #[.pointer (some ⟨b,0,none⟩),.int .i64 k] w λe w'=>e=.returned (.bool false)/\w=w':=by
 have a:=Zh (Ko k i w b d f g L h);rw[nOf,c]at a;simp only[Option.map_none,Option.getD_none]at a;clear h c;go_enter func223,ntmps223;go_wp2_with fail;refine a.zS ?_;go_wp2;go_ret;exact⟨rfl,rfl⟩
theorem Qnc(k:Int)(i:i64 k)(w:World)(b d f g:Nat)(L:List (Int×Gq))(h:Qy w b d f g L)(c:Qn k L=none):
 Calls prog 64 #[.pointer (some ⟨b,0,none⟩),.int .i64 k] w λe w'=>e=.returned (.bool false)/\w=w':=by
 have a:=Zh (Ko k i w b d f g L h);rw[nOf,c]at a;simp only[Option.map_none,Option.getD_none]at a;clear h c;go_enter func64,ntmps64;go_wp2_with fail;refine a.zS ?_;go_wp2;go_ret;exact⟨rfl,rfl⟩
theorem Qk1(k:Int)(o:i64 k)(w:World)(b l c d:Nat)(L:List (Int×Gq))(h:Qy w b l c d L)(x:Gq)(a:Qn k L=some x):
 Calls prog 64 #[.pointer (some ⟨b,0,none⟩),.int .i64 k] w λe w'=>e=.returned (.bool true)/\Qy w' b l c d (Xn k L)/\Kept (lkO b l c d L) w w':=by
 obtain⟨H,n⟩:=Zh2 h (Ko k o w b l c d L h);rw[nOf,a]at n;simp only[Option.map_some,Option.getD_some]at n;have c0:=h.c0;have c1:=h.c1;have i:=h.nes;have s:=h.mm;have v:Ws w x:=h.ent _ (Xh a);have C:(x.g.n==0)=false:=by have:=v.n;simp;omega
 obtain⟨t,D,r,g⟩:=h.mp.del Yo underlying145 (Cu o) 0;rw[Wv]at r;have y:Xm t c 6 d (K4 L):=h.tim.keep g i.2.2.2.1 λe=>s e.symm
 have f:=P8 k o t c 6 d (K4 L) y;rw[Mw,a]at f;simp only[Option.map_some,Option.isSome_some]at f;have B:t.cell? ⟨b,1,none⟩=some (.pointer (some ⟨c,0,none⟩)):=g.cell i.1 c1;obtain⟨z,A,m⟩:=Zh3 f r g;clear h a v r g y f;go_enter func64,ntmps64;go_wp2_with fail;refine n.zS ?_;go_wp2_with fail;refine z.mono ?_;rintro e v ⟨rfl,g,a⟩;obtain⟨r,f⟩:=Zh2 g a;clear g a;go_wp2;go_ret;refine⟨rfl,⟨?_,A.kept f.o s,by rw[Quz];exact r.o,λp a=>?_,λp a q g=>H.sep p (Jo.1 a).1 q (Jo.1 g).1,λp a=>H.sepb p (Jo.1 a).1,s,λp a=>H.k64 p (Jo.1 a).1⟩,?_⟩
 ·obtain⟨T,g⟩:=H.blk
  exact⟨T,f.heap i.2.2.1 (m.heap i.1 g)⟩
 ·have g:=(Jo.1 a).1
  exact((H.ent p g).keep m λj a e=>(H.sepb p g j a).2.1 e).keep f λj a e=>(H.sepb p g j a).2.2.2 e
 ·exact(m.mono λj _ h=>.inr (.inl h)).trans (f.mono λj _ h=>.inr (.inr (.inr (.inl h))))
structure Yi(w0:World)(n0:Nat)(w:World)(b:Nat)(l:List Sm):Prop where
 bel:Bel w0 w
 new:w0.heap.size<=b/\b<n0/\n0<=w.heap.size
 blk:∃T ao cap,w.heap[b]?=some (.cells #[.func (.func 371) #[] #[],.slice ao l.length cap] T (0,0))/\Own L8 (λ_=>False) w0 w 444 ao cap l/\∀k,Qc ao cap k->n0<=k
variable {w0 w : World} {n0 b : Nat} {l : List Sm}
theorem Yi.mv(h:Yi w0 n0 w b l){w':World}(a:Bel w w'):Yi w0 n0 w' b l:=by
 obtain⟨d,c,T,ao,cap,e,f,g⟩:=h;exact⟨d.trans a,⟨c.1,c.2.1,Nat.le_trans c.2.2 a.size⟩,T,ao,cap,a.heap e,f.bel a,g⟩
theorem Yi.kp(h:Yi w0 n0 w b l){w':World}{m:Nat}(a:Kept (λk=>k=m) w w')(f:w0.heap.size<=m)(g:b≠m)(r:m<n0):Yi w0 n0 w' b l:=by
 obtain⟨p,c,T,ao,cap,q,⟨xs,j,n,o⟩,d⟩:=h;exact⟨p.of_kept a λk h=>h▸f,⟨c.1,c.2.1,Nat.le_trans c.2.2 a.size⟩,T,ao,cap,a.heap (λe=>g e) q,⟨xs,j,n.kept a λk i e=>by have:=d k i;omega,o⟩,d⟩
theorem Yi.set(f:Bel w0 w)(a:w0.heap.size<=b/\b<n0/\n0<=w.heap.size){T:TypeId}{v:Value}(h:w.heap[b]?=some (.cells #[.func (.func 371) #[] #[],v] T (0,0))){ao:Option Addr}{cap:Nat}(d:Own L8 (λ_=>False) w0 w 444 ao cap l)(c:∀k,Qc ao cap k->n0<=k):
 Yi w0 n0 (w.setCell ⟨b,1,none⟩ (.slice ao l.length cap)) b l/\Kept (λk=>k=b\/n0<=k) w (w.setCell ⟨b,1,none⟩ (.slice ao l.length cap)):=by
 have q:Kept (λk=>k=b) w (w.setCell ⟨b,1,none⟩ (.slice ao l.length cap)):=(Kept.refl (λk=>k=b) w).setCell (p:=⟨b,1,none⟩) rfl _;refine⟨⟨f.setCell (p:=⟨b,1,none⟩) a.1 _,⟨a.1,a.2.1,Nat.le_trans a.2.2 q.size⟩,T,ao,cap,?_,?_,c⟩,q.mono λk _ h=>.inl h⟩
 ·rw[Go.Mem.heap_setCell_same w b 1 _ _ T (0,0) h];simp
 ·obtain⟨xs,g,i,j⟩:=d
  exact⟨xs,g,i.kept q λk d e=>by have:=c k d;omega,j⟩
theorem Qpi(w:World):Calls prog 370 #[.func (.func 371) #[] #[]] w λe w'=>e=.returned (.pointer (some ⟨w.heap.size,0,none⟩))/\Bel w w'/\w.heap.size<w'.heap.size/\∀n0 a,Bel w' a->w.heap.size<n0->n0<=a.heap.size->Yi w n0 a w.heap.size []:=by
 have d:∀w:World,Sem.run prog (binOp BinOp.eql 393 (.func (.func 371) #[] #[]) Value.nilFunc) w=.ok (.bool false) w:=λw=>rfl
 go_enter func370,ntmps370;go_wp2;go_ret;refine⟨rfl,(Bel.refl w).alloc _,by simp,λn0 a a b c=>⟨((Bel.refl w).alloc _).trans a,⟨Nat.le_refl _,b,c⟩,437,none,0,?_,Own.nil _ _ _ _ _,λk h=>absurd h.1 (by omega)⟩⟩;exact a.heap (heap_alloc_new _ _)
theorem Qpj(w:World):Calls prog 372 #[Value.nilFunc] w λe w'=>e=.returned (.pointer none)/\w=w':=by
 have a:∀w:World,Sem.run prog (binOp BinOp.eql 438 Value.nilFunc Value.nilFunc) w=.ok (.bool true) w:=λw=>rfl
 go_enter func372,ntmps372;go_wp2;go_ret;exact⟨rfl,rfl⟩
theorem Qa5(h:Yi w0 n0 w b l):Calls prog 376 #[.pointer (some ⟨b,0,none⟩)] w λe w'=>e=.returned (.int .i64 l.length)/\w=w':=by
 obtain⟨-,-,T,ao,cap,a,c,d⟩:=h;have c1:=cell_of_block a 1 _ rfl;clear a c d;go_enter func376,ntmps376;go_wp2;go_ret;exact⟨rfl,rfl⟩
theorem Qc1(r:Yi w0 n0 w b l)(t:l.length<=1000)(a:ByteArray->Int)(c:ByteArray)(i:Jv (λx=>a x.x) l)(j:∀x∈l,Ranks x.x c (a x.x) (a c)):
 Calls prog 430 #[.pointer (some ⟨b,0,none⟩),.string c] w λe w'=>e=.returned (.tuple #[.int .i64 (Z5 (λx=>a x.x) (a c) l:Nat),.bool (Qt (λx=>a x.x) (a c) l)])/\Bel w w':=by
 obtain⟨-,-,T,ao,cap,g,h,s⟩:=r;obtain⟨p,f⟩:=Zx (w.alloc (.cells #[.pointer (some ⟨b,0,none⟩)] 391));have d:=Zb f;have k:=Zn f;have q:=cell_of_block k 0 _ rfl;have c0:=cell_of_block (d.heap g) 0 _ rfl;have c1:=cell_of_block (d.heap g) 1 _ rfl;obtain⟨n,o,m⟩:=Zh3 (Qzn (λ_=>False) p ao cap l (h.rd0.bel d) (by omega) a c i j w.heap.size b q c0) f d;clear g h s f d k i j;go_enter func430,ntmps430;go_upto_region 1 with (fail);rw[<-o.o];go_wp2_with fail;refine n.zR λd b2=>?_
 have d:=Zh (m.trans b2);clear b2;go_wp2;go_ret2;exact⟨rfl,d⟩
theorem Qes(h:Yi w0 n0 w b l)(g:l.length<=1000)(c:ByteArray->Int)(a:ByteArray)(q:Jv (λx=>c x.x) l)(r:∀x∈l,Ranks x.x a (c x.x) (c a))(p:Qt (λx=>c x.x) (c a) l=false)(n:Int)(o:0<n/\n<=1000):
 Calls prog 373 #[.pointer (some ⟨b,0,none⟩),.string a,.int .i64 n] w λe w'=>e=.returned (.int .i64 n)/\Yi w0 n0 w' b (l.take (Z5 (λx=>c x.x) (c a) l)++[⟨a,n⟩]++l.drop (Z5 (λx=>c x.x) (c a) l))/\Kept (λk=>k=b\/n0<=k) w w':=by
 have d:=Qc1 h g c a q r;rw[p]at d;obtain⟨i,f⟩:=Zx (Z5 (λx:Sm=>c x.x) (c a) l);have m:i<=l.length:=by rw[f];exact Vm _ _ _
 rw[<-f]at d ⊢;obtain⟨H,A⟩:=Zh2 h d;have J:∀(w:World) j t,(Builtin.max_ j t #[.int .i64 n,.int .i64 0]).run prog w=.ok (.int .i64 n) w:=λw j t=>by rw[run_max_int2];congr 2;split<;>omega
 have L:IntKind.i64.wrap n=n:=by rw[IntKind.wrap_i64];omega
 have K:=o.1;have j:=Zh (And.intro m g);clear h d q r p f m o g;go_enter func373,ntmps373;go_wp2_with fail;refine A.zR λd m=>?_
 obtain⟨s,o,T,ao,cap,g,p,v⟩:=H.mv m;obtain⟨E,f⟩:=Zx (d.alloc (.cells #[.string a,.int .i64 n] 444));have b2:=Zb f;have y:=Zn f;have c1:=cell_of_block g 1 _ rfl;have r:=Qrx (λ_=>False) w0 E ao cap l (p.bel b2) (s.trans b2) (by have:=j.2;omega) i j.1 ⟨a,n⟩ d.heap.size (.string a) (.int .i64 n) rfl y (λh=>by have:=p.lt h;omega);obtain⟨B,C,d,D,z,q⟩:=Zh6 r f (And.intro o v) (b2.heap g) (m.trans b2) (Nat.le_trans o.2.2 b2.size);have I:=Qb g;clear m s o g p v f b2 y r;go_wp2_with fail;rw[<-C.o];refine B.mono ?_;rintro e M ⟨y,F,rfl,s,k3,o,r⟩;have f:=k3.heap (λh=>by have:=d.2 _ h;have:=d.1;omega) D.o;have N:=Qa f 1;have G:=cell_of_block f 1 _ rfl;have p:(l.take i++[⟨a,n⟩]++l.drop i:List Sm).length=l.length+1:=by have:=j.1;simp;omega
 have g:=Yi.set o ⟨d.1.1,d.1.2.1,Nat.le_trans q k3.size⟩ f s (λk h=>(r k h).elim (d.2 k) λh=>Nat.le_trans q h);rw[p]at g;obtain⟨m,v⟩:=Zh2 g ((z.kept (λk=>k=b\/n0<=k)).trans (k3.mono λk _ h=>.inr (d.2 k h)));clear s k3 o r f p g c1;go_wp2;go_ret;exact⟨rfl,m.1,v.trans m.2⟩
end Go.Proofs.YtkdpmdfcdgphlaaGreat
namespace Go.Mem
theorem wpList_append_run{P:Program}(w:World){b:Array Oper}{c:List Oper}{o:Oper}{a:Act}{Q:Exit->Act->World->Prop}(g:o.guard=none)(s x:Operand)(t d:TypeId)
 (i:o.op=.call { callee:=.builtin .append,args:=#[s,x],argTypes:=#[t,d] }) (v e:Value) (k:a.eval s=v) (l:a.eval x=e) {f:Value} {w':World}
 (j:(Builtin.append_ #[t,d] o.type #[v,e]).run P w=.ok f w') (h:wpList P b Q c (a.put o.dst f) w'):wpList P b Q (o::c) a w:=
 wpList_plain g λK e=>by
  unfold Oper.wp execOp;simp only[i,resolve,invoke,builtin,Sem.run_bind,Sem.run_pure,Result.andThen_ok,List.map_toArray,List.map_cons,List.map_nil,k,l,j];exact e _ _ h
end Go.Mem
namespace Go.Proofs.YtkdpmdfcdgphlaaGreat
open Tryz
open Go.RowKit Go.Mem Go.Po
theorem Qyv(A:Nat->Prop)(w0 w:World)(ao:Option Addr)(cap:Nat)(x y:Sm)(h:Own L8 A w0 w 444 ao cap [x,y]):
 Calls prog 431 #[.slice ao 2 cap,.int .i64 1,.int .i64 2] w λe w'=>e=.returned (.slice ao 1 cap)/\Own L8 A w0 w' 444 ao cap [x]/\Kept (Qc ao cap) w w':=by
 obtain⟨xs,F,⟨G,k,I,z⟩,J⟩:=id h;simp only[List.length_cons,List.length_nil,Nat.zero_add,Nat.reduceAdd]at k;obtain⟨g,off,l,rfl,D,t,p,E⟩:=z (by omega);have r:off+cap*2<=l.size:=p;have s:prog.elem 435=444:=by kernel_rfl
 have b:∀w:World,(sizeOf (prog.elem 435)).run prog w=.ok 2 w:=λw=>by kernel_rfl
 have c:prog.underlying 435=some (.slice (prog.elem 435)):=by rw[s];exact underlying435
 have N:∀w,(Instr.slice 435 (.slice (some ⟨g,off,none⟩) 2 cap) (some (.int .i64 1)) (some (.int .i64 2)) (some (.int .i64 2))).run prog w=.ok (.slice (some ⟨g,off+2,none⟩) 1 1) w:=λw=>by
  rw[run_slice_lhm w _ _ 2 cap c .i64 .i64 .i64 1 2 2 (by omega) (by omega) (by omega) (by omega),b];simp[Result.andThen,sliced,Addr.add_lit]
 have O:∀w,(Instr.slice 435 (.slice (some ⟨g,off,none⟩) 2 cap) none (some (.int .i64 1)) none).run prog w=.ok (.slice (some ⟨g,off,none⟩) 1 cap) w:=λw=>by
  rw[run_slice_h w _ _ 2 cap c .i64 1 (by omega) (by omega),b];simp[Result.andThen,sliced,Addr.add_lit]
 obtain⟨f,m⟩:=Zx (adv (some ⟨g,off,none⟩) cap 2 2);obtain⟨c2,o⟩:=Zx (cap-2);have Q:∀w,(Instr.slice 435 (.slice (some ⟨g,off,none⟩) 2 cap) (some (.int .i64 2)) none none).run prog w=.ok (.slice f 0 c2) w:=λw=>by
  rw[m,o];exact Vq (P:=prog) 435 2 c b _ 2 cap 2 (by omega) w
 have R:∀w,(Instr.slice 435 (.slice (some ⟨g,off,none⟩) 1 cap) (some (.int .i64 1)) (some (.int .i64 2)) none).run prog w=.ok (.slice (some ⟨g,off+2,none⟩) 1 (cap-1)) w:=λw=>by
  rw[run_slice_lh w _ _ 1 cap c .i64 .i64 1 2 (by omega) (by omega) (by omega),b];have:¬cap=1:=by omega
  simp[Result.andThen,sliced,Addr.add_lit,this]
 have K:∀(w:World) j,(Builtin.append_ #[435,435] j #[.slice (some ⟨g,off,none⟩) 1 cap,.slice f 0 c2]).run prog w=.ok (.slice (some ⟨g,off,none⟩) 1 cap) w:=λw j=>by
  obtain⟨j,S,B,C,H,L,M⟩:=Qi1.hi;refine run_append_nothing w _ _ _ _ j Qi1.ht B _ 1 cap (by omega) _ ⟨.inl ⟨_,Qi1.ht⟩,λ_=>rfl,?_,?_,by simp,by simp⟩
  ·rcases f with _|a
   ·exact run_firstCells_none w _ _ _ _
   ·exact run_firstCells_some w _ 0 a 0 c2 [] (by simp) (by simp)
  ·rcases f with _|a
   ·exact run_firstCells_none w.drew _ _ _ _
   ·exact run_firstCells_some w.drew _ 0 a 0 c2 [] (by simp) (by simp)
 obtain⟨H,B,j,C⟩:=Zh4 h t k r;clear h F G k I z J D t p E r m o c b s;go_enter func431,ntmps431;go_upto_region 5 with (fail);refine Zp [7] 8 (by kernel_rfl) rfl (by kernel_rfl) (λ_ d _ _ _ h=>by cases d<;>exact h) ?_;intro D b t;have c:=b.heap B;obtain⟨z,o,s⟩:=Dy (P:=prog) D 435 444 0 (.agg #[.string ⟨#[]⟩,.int .i64 0]) [.string ⟨#[]⟩,.int .i64 0] underlying435 (λw=>zeroValue444 w) rfl (by intro v p;simp only[List.mem_cons,List.not_mem_nil,or_false]at p;rcases p with rfl|rfl<;>rfl) (by decide) g (off+2) 1 (cap-1) (by omega) (λq k=>by
  simp only[List.length_cons,List.length_nil]at k;have m:off+2+q<l.size:=by have:=j.o;have:=C.o;omega
  simp[World.cell?,c,m]) (λq k=>by simp[World.frozen?,c])
 have m:=((H.bel b).front (i:=1) (by simp)).behind (g:=g) (off:=off) (n:=2) (vs:=z) rfl (Nat.mul_le_mul_right _ j.o) (by rw[o];exact Nat.le_of_eq rfl) (by have:=j.o;omega);obtain⟨k,r⟩:=Zh2 m b;clear b t c o m;refine Xt 2 [0,1,2,3,4,5] (by kernel_rfl) rfl ?_;simp only[Za,List.getElem?_cons_zero,List.getElem?_cons_succ];repeat(go_big_quiet_step(fail))
 refine wpQuiet_nil ?_;refine Qq 1 6 (by kernel_rfl) rfl ?_;refine wpList_append_run _ rfl _ _ 435 435 rfl _ _ rfl rfl (K _ _) ?_;go_wp2_with fail;refine Zl (Bel.refl _) ?_;refine Qq 0 7 (by kernel_rfl) rfl ?_;go_wp2_with fail;refine Z6 ?_;refine X0 (by kernel_rfl) ?_;go_wp2_with(at_builtin;refine wpList_clear_run _ rfl _ 435 rfl _ rfl s ?_);go_ret;exact⟨rfl,k.1,(r.kept _).trans k.2⟩
variable {w0 w : World} {n0 b : Nat}
def sA:ByteArray:=⟨#[97]⟩
def sX:ByteArray:=⟨#[120]⟩
def lAX:List Sm:=[⟨sA,1⟩,⟨sX,2⟩]
theorem Qpk(h:Yi w0 n0 w b lAX)(fr:ByteArray->Int)(hr:Jv (λx:Sm=>fr x.x) lAX)(hrk:∀x∈lAX,Ranks x.x sX (fr x.x) (fr sX))(hp:Z5 (λx:Sm=>fr x.x) (fr sX) lAX=1)(hs:Qt (λx:Sm=>fr x.x) (fr sX) lAX=true):
 Calls prog 373 #[.pointer (some ⟨b,0,none⟩),.string sX,.int .i64 (-5)] w λe w'=>e=.returned (.int .i64 0)/\Yi w0 n0 w' b [⟨sA,1⟩]/\Kept (λk=>k=b\/n0<=k) w w':=by
 have hfd:=Qc1 h (by simp[lAX]) fr sX hr hrk;rw[hp,hs]at hfd;obtain⟨H,HFD⟩:=Zh2 h hfd;have hmax:∀(w:World) ts t,(Builtin.max_ ts t #[.int .i64 (-3),.int .i64 0]).run prog w=.ok (.int .i64 0) w:=λw ts t=>by rw[run_max_int2];rfl
 clear h hfd hr hrk hp hs;go_enter func373,ntmps373;go_wp2_with fail;refine HFD.zR λw1 b1=>?_
 obtain⟨q1,q2,T,ao,cap,q3,q4,q5⟩:=H.mv b1;obtain⟨g,off,rfl,hg,d0,d1⟩:=Qi0 (k:=1) (x:=⟨sX,2⟩) q4.rd0 rfl;have c1:=cell_of_block q3 1 _ rfl;have hbt:=Qb q3;obtain⟨HDL,HQ,Q3,B1⟩:=Zh4 (Qyv (λ_=>False) w0 w1 _ cap ⟨sA,1⟩ ⟨sX,2⟩ q4) (And.intro q1 (And.intro q2 q5)) q3 b1;clear b1 q1 q2 q3 q4 q5;go_wp2_with fail;refine HDL.mono ?_;rintro e w2 ⟨rfl,o2,k2⟩;have Q32:=k2.heap (λh=>by have:=HQ.2.2 _ h;have:=HQ.2.1;omega) Q3.o;have z1:=Qa Q32 1;have e1:=cell_of_block Q32 1 _ rfl;have b2:Bel w0 w2:=HQ.1.of_kept k2 λk hk=>by have:=HQ.2.2 _ hk;have:=HQ.2.1;omega
 have hst:=Yi.set (l:=[⟨sA,1⟩]) b2 ⟨HQ.2.1.1,HQ.2.1.2.1,Nat.le_trans HQ.2.1.2.2 k2.size⟩ Q32 o2 (λk h=>HQ.2.2 k h);obtain⟨HST,K2⟩:=Zh2 hst ((B1.kept (λk=>k=b\/n0<=k)).trans (k2.mono λk _ h=>.inr (HQ.2.2 k h)));clear o2 k2 b2 Q32 hst c1 d0 d1;go_wp2;go_ret;exact⟨rfl,HST.1,K2.trans HST.2⟩
theorem Qq7(h:Yi w0 n0 w b lAX):
 Calls prog 374 #[.pointer (some ⟨b,0,none⟩),.int .i64 1] w λe w'=>e=.returned (.tuple #[.string sX,.bool true])/\Bel w w':=by
 obtain⟨q1,q2,T,ao,cap,q3,q4,q5⟩:=h;obtain⟨g,off,rfl,hg,d0,d1⟩:=Qi0 (k:=0) (x:=⟨sA,1⟩) q4.rd0 rfl;obtain⟨g',off',he,hg',d2,d3⟩:=Qi0 (k:=1) (x:=⟨sX,2⟩) q4.rd0 rfl;cases he;simp only[Nat.zero_mul,Nat.add_zero,Nat.one_mul]at d0 d1 d2 d3;have c1:=cell_of_block q3 1 _ rfl;have HD:=Zh (And.intro d0 (And.intro d1 (And.intro d2 d3)));have hbt:=Qb q3;clear q1 q2 q3 q4 q5 d0 d1 d2 d3 hg';go_enter func374,ntmps374;go_wp2;go_loopw[1,8,21] (λi _ k wr=>∃j:Nat,j<=1/\k=.int .i64 j/\i=.int .i64 (1-j:Int)/\Hid (Bel w wr)) (λ_ _ k _=>2-(intOf k).toNat)
 case atStart=>exact⟨0,by omega,rfl,rfl,Zh (Bel.refl _)⟩
 case round=>
  obtain⟨j,hj,rfl,rfl,hB⟩:=hrel;have hgw:=Nat.lt_of_lt_of_le hg hB.size;obtain rfl|rfl:j=0\/j=1:=by omega
  ·have e0:=hB.cell HD.1
   have e1:=hB.cell HD.2.1;have hB2:=Zh (hB.alloc (.cells #[.string sA,.int .i64 1] 444));go_wp2;go_roundw
   case rel=>exact⟨1,by omega,rfl,rfl,hB2⟩
   case measure=>simp[intOf]
  ·have e0:=hB.cell HD.2.2.1
   have e1:=hB.cell HD.2.2.2;have hB2:=Zh (hB.alloc (.cells #[.string sX,.int .i64 2] 444));go_wp2;go_ret2;exact⟨rfl,hB2⟩
theorem Qpl(h:Yi w0 n0 w b [⟨sA,1⟩]):
 Calls prog 375 #[.pointer (some ⟨b,0,none⟩)] w λe w'=>e=.returned (.int .i64 1)/\Bel w w':=by
 have i:=Zh (Qa5 h);obtain⟨m,o,T,ao,cap,c,f,p⟩:=h;obtain⟨g,off,rfl,r,l,a⟩:=Qi0 (k:=0) (x:=⟨sA,1⟩) f.rd0 rfl;simp only[Nat.zero_mul,Nat.add_zero]at a;have c1:=cell_of_block c 1 _ rfl;have d:=Zh (And.intro a c1);have q:=Qb c;clear m o c f p l a c1;go_enter func375,ntmps375;go_wp2_with fail;refine i.zS ?_;go_wp2;go_loopw[3,4,7] (λn _ k wr=>∃j:Nat,j<=1/\k=.int .i64 j/\n=.int .i64 j/\Hid (Bel w wr)) (λ_ _ k _=>2-(intOf k).toNat)
 case atStart=>exact⟨0,by omega,rfl,rfl,Zh (Bel.refl _)⟩
 case round=>
  obtain⟨j,f,rfl,rfl,a⟩:=hrel;obtain rfl|rfl:j=0\/j=1:=by omega
  ·have e0:=a.cell d.1
   have c:=a.cell d.2;go_wp2;go_roundw
   case rel=>exact⟨1,by omega,rfl,rfl,a⟩
   case measure=>simp[intOf]
  ·go_wp2
   go_ret;exact⟨rfl,a⟩
end Go.Proofs.YtkdpmdfcdgphlaaGreat

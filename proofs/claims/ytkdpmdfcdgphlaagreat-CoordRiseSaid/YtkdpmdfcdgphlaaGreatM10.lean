/- Part of this claim's proof. Conditions: as its theorems say. -/
import Derived.Test.YtkdpmdfcdgphlaaGreatM9
set_option linter.all false
set_option maxHeartbeats 20000000
set_option maxRecDepth 100000
namespace Go.Po
theorem Qe1{α:Type}{p:α->Bool}:∀{l:List α} {k:Nat} {x:α},l[k]?=some x->p x=true->(∀j y,j<k->l[j]?=some y->p y=false)->(l.take (k+1)).filter (λy=>!p y)=l.take k
 | [],k,x,h,_,_=>by simp at h
 | a::l,0,x,h,hp,_=>by
  simp only[List.getElem?_cons_zero,Option.some.injEq]at h;subst h;simp[hp]
 | a::l,k+1,x,h,hp,hn=>by
  have b:=hn 0 a (by omega) rfl;have:=Qe1 (l:=l) (k:=k) (x:=x) (by simpa using h) hp λj y c c=>hn (j+1) y (by omega) (by simpa using c)
  rw[List.take_succ_cons,List.filter_cons,List.take_succ_cons];simp[b,this]
theorem Qrr{α:Type}{p:α->Bool}{l:List α}(h:l.any p=false):l.filter (λy=>!p y)=l:=by
 rw[List.filter_eq_self];rw[List.any_eq_false]at h;intro x a;simpa using h x a
theorem Ta{α:Type}{p:α->Bool}{l:List α}(h:l.any p=true):∃(i:Nat) (x:α),Kz p l=i/\l[i]?=some x/\p x=true/\∀j y,j<i->l[j]?=some y->p y=false:=by
 rw[List.any_eq_true]at h;have b:=List.findIdx_lt_length.2 h;refine⟨l.findIdx p,l[l.findIdx p],by rw[Kz,if_pos b],by simp,List.findIdx_getElem,λj y a c=>?_⟩;obtain⟨d,rfl⟩:=List.getElem?_eq_some_iff.1 c;have:=List.not_of_lt_findIdx a;simpa using this
open Go.Mem Go.Lib Go.RowKit
theorem Qkd{w:World}{g o n:Nat}{f:Nat->Option Value}(h:∀j,j<n->w.cell? ⟨g,o+j,none⟩=f j):(0<n->w.cell? ⟨g,o,none⟩=f 0)/\(1<n->w.cell? ⟨g,o+1,none⟩=f 1)/\(2<n->w.cell? ⟨g,o+2,none⟩=f 2)/\(3<n->w.cell? ⟨g,o+3,none⟩=f 3)/\(4<n->w.cell? ⟨g,o+4,none⟩=f 4)/\(5<n->w.cell? ⟨g,o+5,none⟩=f 5):=
 ⟨h 0,h 1,h 2,h 3,h 4,h 5⟩
theorem Qrs{w w':World}{a:Array Value}{E:TypeId}(h:Bel (w.alloc (.cells a E)) w'):∀q,q<a.size->w'.cell? ⟨w.heap.size,0+q,none⟩=a[q]?:=λq b=>by
 have:a[q]?=some a[q]:=by simp[b]
 rw[this];exact h.cell (by simp only[Nat.zero_add];go_simp)
theorem Qxn{P:Program}{α:Type}{r:Rp α}{A:Nat->Prop}{w0 wr:World}{S E a off cap n i:Nat}{m:List α}{z:Value}{zs:List Value}(h:Own r A w0 wr E (some ⟨a,off,none⟩) cap m)(N:m.length=n)(M:i<n)(j:n<=cap)(U:P.underlying S=some (.slice E))(Z:∀w,(zeroValue E).run P w=.ok z w)(y:z.cells.toList=zs)(B:∀v∈zs,v.oneCell'=true)(c:zs.length=r.size)(C:0<r.size)(d:∀w,(sizeOf E).run P w=.ok r.size w)(b:P.elem S=E):
 ∃w',(Builtin.clear_ #[S] 0 #[.slice (some ⟨a,off+i*r.size,none⟩) (n-i) (cap-i)]).run P wr=.ok (.tuple #[]) w'/\(∀w,(Instr.slice S (.slice (some ⟨a,off,none⟩) n cap) (some (.int .i64 i)) none none).run P w=.ok (.slice (some ⟨a,off+i*r.size,none⟩) (n-i) (cap-i)) w)/\(∀w,(Instr.slice S (.slice (some ⟨a,off,none⟩) n cap) none (some (.int .i64 i)) none).run P w=.ok (.slice (some ⟨a,off,none⟩) i cap) w)/\Own r A w0 w' E (some ⟨a,off,none⟩) cap (m.take i)/\Kept (Qc (some ⟨a,off,none⟩) cap) wr w':=by
 have l:(m.take i).length=i:=by rw[List.length_take];omega
 have O:0<cap:=by omega
 have x:=h;obtain⟨xs,K,⟨R,T,V,D⟩,-⟩:=x;obtain⟨J,Q,e,s,G,f,H,I⟩:=D (by omega);cases s;have L:(off+i*r.size)+(n-i)*r.size<=e.size:=by
  have k:i*r.size+(n-i)*r.size=n*r.size:=by rw[<-Nat.add_mul];congr 1;omega
  have o:n*r.size<=cap*r.size:=Nat.mul_le_mul_right _ j;omega
 obtain⟨F,p,t⟩:=Dy (P:=P) wr S E 0 z zs U Z y B (by rw[c];exact C) a (off+i*r.size) (n-i) (cap-i) (by omega) (λq k=>by
  rw[c]at k;have o:off+i*r.size+q<e.size:=by omega
  simp[World.cell?,f,o]) (λq k=>by simp[World.frozen?,f])
 rw[c]at p;have o:=λw=>Vq (P:=P) S r.size (by rw[b];exact U) (λw=>by rw[b];exact d w) (some ⟨a,off,none⟩) n cap i (by omega) w
 rw[show adv (some ⟨a,off,none⟩) cap i r.size=some ⟨a,off+i*r.size,none⟩ by rw[adv,if_neg (by omega),Option.map_some,Addr.add_lit]]at o;have k:=(h.front (i:=i) (by omega)).behind (g:=a) (off:=off) (n:=n) (vs:=F) rfl (Nat.mul_le_mul_right _ j) (by rw[l,p,<-Nat.add_mul];exact Nat.mul_le_mul_right _ (by omega)) (by omega);rw[l]at k;exact⟨_,t,o,λw=>Mo (P:=P) S E r.size U b d (some ⟨a,off,none⟩) n cap i (by omega) w,k⟩
end Go.Po
namespace Go.Proofs.YtkdpmdfcdgphlaaGreat
open Tryz
open Go.RowKit Go.Mem Go.Po Go.Shelf Go.Lib
inductive DlK|b|p|m|i|s
namespace DlK
def α:DlK->Type|b=>Branch|p=>Qv|m=>Msg|i=>Int|s=>ByteArray
def r:(k:DlK)->Rp k.α|b=>Zm|p=>Z4|m=>Xy|i=>Qh|s=>Xk
def E:DlK->Nat|b=>58|p=>134|m=>47|i=>3|s=>9
def S:DlK->Nat|b=>39|p=>41|m=>38|i=>67|s=>286
def F:DlK->Nat|b=>339|p=>344|m=>151|i=>244|s=>229
def G:DlK->Nat|b=>163|p=>161|m=>242|i=>326|s=>317
def ag:DlK->Bool|i=>false|s=>false|_=>true
def zs:DlK->List Value|m=>[.int .i64 0,.string ⟨#[]⟩,.string ⟨#[]⟩,.int .i64 0,.int .i64 0,.int .i64 0]|i=>[.int .i64 0]|s=>[.string ⟨#[]⟩]|_=>[.int .i64 0,.slice none 0 0]
theorem und:∀k:DlK,prog.underlying k.S=some (.slice k.E)|b=>underlying39|p=>underlying41|m=>underlying38|i=>underlying67|s=>underlying286
theorem zero:∀k:DlK,∀w,(zeroValue k.E).run prog w=.ok (Qbk k.ag k.zs) w|b=>zeroValue58|p=>zeroValue134|m=>zeroValue47|i=>zeroValue3|s=>zeroValue9
theorem one(k:DlK):∀v∈k.zs,v.oneCell'=true:=by cases k<;>decide
theorem sz:∀k:DlK,∀w,(sizeOf k.E).run prog w=.ok k.r.size w|b=>Tryz.sizeOf58|p=>Tryz.sizeOf134|m=>Tryz.sizeOf47|i=>Tryz.sizeOf3|s=>Tryz.sizeOf9
end DlK
open DlK in
theorem del(k:DlK):∀(p:k.α->Bool) (g:Nat) (z:Array Value) (ak:Vt g) (A:Nat->Prop) (w0 w:World) (ao:Option Addr) (cap:Nat) (l:List k.α) (h:Own k.r A w0 w k.E ao cap l) (ac:l.length<=100000)
 (d:∀(x:k.α) (W:World) (vs:List Value),x∈l->Kept (Qc ao cap) w W->k.r.R (λ_=>False) W x vs->Ans g (Qbk k.ag vs) z W (p x))
 (c:Calls prog k.G #[.slice ao l.length cap,.func (.func g) #[] z] w λe w'=>e=.returned (.int .i64 (Kz p l))/\Bel w w'),
 Calls prog k.F #[.slice ao l.length cap,.func (.func g) #[] z] w λe w'=>e=.returned (.slice ao (l.filter λx=>!p x).length cap)/\Own k.r A w0 w' k.E ao cap (l.filter λx=>!p x)/\Kept (Qc ao cap) w w':=by
 obtain⟨U,Z,O,J⟩:=Zh4 k.und k.zero k.one k.sz;have F:Hid (prog.elem k.S=k.E):=Zh (by simp[Program.elem,k.und]);revert U Z O J F;cases k;all_goals
  dsimp only[DlK.α,DlK.r,DlK.E,DlK.S,DlK.F,DlK.G,DlK.ag,DlK.zs];intro U Z O J F p g z ak A w0 w ao cap l h ac d c;obtain⟨n,o⟩:=Zx l.length;rw[<-o]at ac c ⊢;obtain⟨H,f,M,af⟩:=Zh4 h o c d;clear h c o d;rcases d:l.any p with _|_
  ·have r:=Zh (Qrr d)
   have c:=M.o;rw[Ri d]at c;have G:=Zh c;clear d c;first|go_enter func339,ntmps339|go_enter func344,ntmps344|go_enter func151,ntmps151|go_enter func244,ntmps244|go_enter func229,ntmps229
   go_wp2_with fail;refine G.zR λL o=>?_
   have s:=Zh o;clear o;go_wp2;go_ret;rw[r.o,<-f.o];exact⟨rfl,H.bel s,s.kept _⟩
  ·obtain⟨r,aX,E,t,K,v⟩:=Ta d
   have c:=M.o;rw[E]at c;have D:=Qe1 t K v;have aL:r<n:=by have:=(List.getElem?_eq_some_iff.1 t).1;have:=f.o;omega
   obtain⟨S,off,aV,rfl,I,-,-,-⟩:=H.at t;have ab:=H.le;rw[<-f.o]at ab;have an:=H.max;simp only[maxLen]at an;obtain⟨G,ah⟩:=Zh2 c D;have aP:((r:Int)==-1)=false:=beq_eq_false_iff_ne.2 (by omega);have aR:IntKind.i64.wrap ((r:Int)+1)=((r+1:Nat):Int):=by rw[IntKind.wrap_i64];omega
   have aO:=I.1;clear E d c D t K v I;first|go_enter func339,ntmps339|go_enter func344,ntmps344|go_enter func151,ntmps151|go_enter func244,ntmps244|go_enter func229,ntmps229
   go_wp2_with fail;refine G.zR λL o=>?_
   have s:=Zh o;clear o;go_wp2;go_loopw[5,6,7] (λa b _ wr=>∃(i j:Nat) (m:List _),i<j/\j<=n/\a=.int .i64 i/\b=.int .i64 j/\Hid (Own _ A w0 wr _ (some ⟨S,off,none⟩) cap m)/\Hid (m.length=n)/\Hid (m.take i=(l.take j).filter λx=>!p x)/\Hid (m.drop j=l.drop j)/\Hid (Kept (Qc (some ⟨S,off,none⟩) cap) w wr)) (λ_ b _ _=>n-(RowKit.intOf b).toNat)
   case atStart=>exact⟨r,r+1,l,by omega,by omega,rfl,by go_num,Zh (H.bel s.o),Zh f.symm,Zh ah.symm,Zh rfl,Zh (s.kept _)⟩
   case round=>
    obtain⟨i,j,m,ar,aN,rfl,rfl,t,d,X,T,E⟩:=hrel;by_cases aM:j<n
    ·have D:j<l.length:=by have:=f.o;omega
     obtain⟨x,o⟩:∃x,l[j]?=some x:=⟨l[j],by simp[D]⟩;have I:m[j]?=some x:=by
      have:=congrArg (λq=>q[0]?) T.o;simp only[List.getElem?_drop,Nat.add_zero]at this;rw[this];exact o
     obtain⟨aI,aT,vs,al,L,K,⟨a9,c⟩,v⟩:=t.at I;cases al;obtain⟨N,Q,ae⟩:=Zh3 K o c;have aK:=Qb c;first|obtain⟨av,a8,rfl,-⟩:=K|obtain rfl:=K
     have C:=Qkd v;simp only[Zm,Z4,Xy,Qh,Xk,Rp.flat,Nat.mul_one,Nat.reduceLT,forall_const,false_imp_iff,and_true,List.getElem?_cons_zero,List.getElem?_cons_succ]at C;first|obtain⟨c0,c1,c2,c3,ay,az⟩:=C|obtain⟨c0,c1⟩:=C|have c0:=C
     clear o I c L D v;go_wp2_with fail;have o:=fun (W:World) (c:Bel wr W)=>af x W _ (List.mem_of_getElem? Q) (E.trans (c.kept _)) (Rp.keep _ (B:=λ_=>False) N (c.kept λ_=>False) (λ_ h=>h.elim) λ_ _ h=>h.elim)
     first|refine(o _ (Bel.refl _)).mono ?_|refine(o _ ((Bel.refl wr).alloc _)).mono ?_
     rintro e au ⟨rfl,v⟩;have aQ:IntKind.i64.wrap ((j:Int)+1)=((j+1:Nat):Int):=by rw[IntKind.wrap_i64];omega
     have c:Hid (Bel wr au):=Zh (by first|exact v|exact((Bel.refl wr).alloc _).trans v);clear o;have V:Hid (m.drop (j+1)=l.drop (j+1)):=Zh (by
      have:=congrArg (λq=>q.drop 1) T.o;simpa[List.drop_drop] using this)
     have Y:Hid ((l.take (j+1)).filter (λx=>!p x)=m.take i++if p x=true then [] else [x]):=Zh (by
      rw[List.take_succ,Q.o,List.filter_append,<-X.o];congr 1
      show List.filter _ [x]=_;rcases o:p x with _|_<;>simp[o])
     rcases o:p x with _|_
     ·have I:=Zh o
      have aS:IntKind.i64.wrap ((i:Int)+1)=((i+1:Nat):Int):=by rw[IntKind.wrap_i64];omega
      have ap:(0:Int)<=(i:Int):=by omega
      have aq:(i:Int)<(n:Int):=by omega
      obtain⟨y,ad⟩:∃y,m[i]?=some y:=⟨m[i]'(by have:=d.o;omega),by simp⟩;obtain⟨aJ,aU,aW,am,-,W,-,aa⟩:=(t.bel c.o).at ad;cases am;have L:=(t.bel c.o).set rfl (i:=i) (by have:=d.o;omega) (x:=x) (vs:=_) (Rp.keep _ N.o (c.kept λ_=>False) (λ_ h=>h.elim) λ_ _ h=>h);try simp only[show Qh.size=1 from rfl,show Xk.size=1 from rfl,Nat.mul_one]at L
      have P:=Zh L;first|obtain⟨ax,aw,rfl,-⟩:=W|obtain rfl:=W
      have D:=Qkd aa;simp only[Zm,Z4,Xy,Qh,Xk,Rp.flat,Nat.mul_one,Nat.reduceLT,forall_const,false_imp_iff,and_true,List.getElem?_cons_zero,List.getElem?_cons_succ]at D;first|obtain⟨R,ai,aA,aB,aC,aD⟩:=D|obtain⟨R,ai⟩:=D|have R:=D
      have aY:=Qa (c.heap ae);first
       | (have e:=(Qkd (Qrs v):_)
          simp only[List.size_toArray,List.length_cons,List.length_nil,Nat.reduceAdd,Nat.reduceLT,forall_const,false_imp_iff,and_true,List.getElem?_toArray,List.getElem?_cons_zero,List.getElem?_cons_succ,Nat.zero_add]at e;first|obtain⟨e0,aj,aE,aF,aG,aH⟩:=e|obtain⟨e0,aj⟩:=e)
       | skip
      clear o v aa L ad;go_wp2;go_roundw
      case rel=>
       refine⟨i+1,j+1,m.set i x,by omega,by omega,by go_num,by go_num,Zh P.1,Zh (by rw[List.length_set];exact d.o),Zh ?_,Zh ?_,Zh ((E.trans (c.kept _)).trans P.2)⟩
       ·rw[Y.o,I.o]
        have L:i<m.length:=by have:=d.o;omega
        rw[List.take_succ,List.getElem?_set_self L,List.take_set_of_le (Nat.le_refl _)];rfl
       ·rw[List.drop_set_of_lt (by omega)];exact V.o
      case measure=>simp[RowKit.intOf];omega
     ·have I:=Zh o
      clear o v;go_wp2;go_roundw
      case rel=>exact⟨i,j+1,m,by omega,by omega,rfl,by go_num,Zh (t.bel c.o),d,Zh (by rw[Y.o,I.o];simp),V,Zh (E.trans (c.kept _))⟩
      case measure=>simp[RowKit.intOf];omega
    ·obtain rfl:j=n:=by omega
     have c:m.take i=l.filter λx=>!p x:=by
      rw[X.o,List.take_of_length_le (by have:=f.o;omega)]
     have I:(l.filter λx=>!p x).length=i:=by rw[<-c,List.length_take];have:=d.o;omega
     obtain⟨w',D,L,P,o⟩:=Qxn t.o d.o ar ab U.o Z.o rfl O.o rfl (by decide) J.o F.o;rw[c]at o;simp only[Zm,Z4,Xy,Qh,Xk,Rp.flat,Nat.mul_one]at D L;obtain⟨v,K⟩:=Zh2 o I;have ap:(0:Int)<=(i:Int):=by omega
     have aq:(i:Int)<=(j:Int):=by omega
     have N:(i:Int)<=(cap:Int):=by omega
     clear c o I;go_wp2_with(at_builtin;refine wpList_clear_run _ rfl _ _ rfl _ rfl D ?_);go_ret;rw[K.o];exact⟨rfl,v.1,E.trans v.2⟩
end Go.Proofs.YtkdpmdfcdgphlaaGreat

/- Part of this claim's proof. Conditions: as its theorems say. -/
import Derived.Test.YtkdpmdfcdgphlaaGreatM34
set_option linter.all false
namespace Go.Po
open Go.Mem Go.Proofs.YtkdpmdfcdgphlaaGreat
def upA(a:U6):U6:=⟨a.Y,a.N,a.ns,a.ticks+1⟩
def upB(b:Br)(t:Int)(a:U6):Br:=⟨b.l,b.s,b.G,Qo t (upA a) b.K⟩
def tickOne(x:(List Ye×Int)×Br)(p:Qv):(List Ye×Int)×Br:=
 match Qn p.tid x.2.K with
 | none=>x
 | some a=>if a.ticks+1<3 then ((x.1.1++Qbc x.2.s.broker p.tid (upA a),x.1.2),upB x.2 p.tid a)
  else ((x.1.1++(Wn (upB x.2 p.tid a) p.tid false p.parts).1.1,if (x.1.2==0)=true then (Wn (upB x.2 p.tid a) p.tid false p.parts).1.2 else x.1.2),(Wn (upB x.2 p.tid a) p.tid false p.parts).2)
def tick0(b:Br):List Ye:=b.s.noes.flatMap λp=>Fw b.s.broker p.tid false p.parts
def tickX(b:Br):(List Ye×Int)×Br:=b.s.opens.foldl tickOne ((tick0 b,0),b)
def oldK(k:Int)(K:List (Int×U6)):Prop:=∀p∈K,p.2.ticks+k<=1000000
theorem oldK.mono{k k':Int}{K:List (Int×U6)}(h:oldK k K)(b:k'<=k):oldK k' K:=λp a=>by have:=h p a;omega
theorem oldK.put{k:Int}{K:List (Int×U6)}(h:oldK (k+1) K){t:Int}{a:U6}(c:Qn t K=some a):oldK k (Qo t (upA a) K):=λp b=>by
 rcases Zt.1 b with rfl|⟨b,_⟩
 ·have d:a.ticks+(k+1)<=1000000:=h _ (Xh c)
  show a.ticks+1+k<=1000000;omega
 ·have:=h p b;omega
theorem oldK.dec{k:Int}{b:Br}(h:oldK k b.K)(t:Int)(ps:List Int):oldK k (Wn b t false ps).2.K:=by
 unfold Wn;split
 ·exactλp a=>h p (Jo.1 a).1
 ·exact h
theorem parts7{s:St}(ok:May s):(∀x∈s.opens,x.parts.length<=7)/\∀x∈s.noes,x.parts.length<=7:=by
 refine⟨λx a=>?_,λx a=>?_⟩
 ·have h:=(Qz9.1 (Mh ok x a).2).2
  have:=(Fp.1 h).2.2.2;omega
 ·have h:=(Qz9.1 (Su ok x a).2).2
  have:=(Fp.1 h).2.2.2;omega
theorem decX_len(b:Br)(t:Int)(a:Bool)(ps:List Int):(Wn b t a ps).1.1.length<=ps.length:=by
 unfold Wn;split
 ·rw[Fw,List.length_map];exact Nat.le_refl _
 ·exact Nat.zero_le _
end Go.Po
namespace Go.Proofs.YtkdpmdfcdgphlaaGreat
open Go.RowKit Go.Mem Go.Po
section
variable {n n' N N2 : Nat} {A B O O' Ok Op S : Nat → Prop} {w w' wr w1 w4 w5 W3 : World} {cb pb kb db om : Nat} {l l' : List St} {s s' : St} {G G' : List (Int × Goes)} {K : List (Int × U6)} {C C' : List (Int × Aq)} {br : Int} {b b2 : Br} {lo ao so ao' : Option Addr} {lc cap sO cap' : Nat} {outs outs' pk : List Ye} {ps : List Qv}
theorem U0.same(h:U0 n C){k:Int}{x y:Aq}(b:Qn k C=some y)(c:x.a.N.length<=n):U0 n (Qo k x C):=
 ⟨Nat.le_trans (D5 b) h.1,λp a=>by
  rcases Zt.1 a with rfl|a
  ·exact c
  ·exact h.2 p a.1⟩
theorem Cs.ticked(h:Cs w cb om kb pb br C){t:Int}{x:Aq}(g:Qn t C=some x)(l:x.a.ticks+1<=1000000):
 Cs (w.setCell ⟨x.e,2,none⟩ (.int .i64 (x.a.ticks+1))) cb om kb pb br (Qo t ⟨x.e,x.vb,x.ym,x.nm,x.mm,upA x.a⟩ C)/\Kept (csO cb om C) w (w.setCell ⟨x.e,2,none⟩ (.int .i64 (x.a.ticks+1))):=by
 have d:=Xh g;have a:Wj w x:=h.ent _ d;have m:=a.tk;have c:=Kept.set1 w x.e 2 (.int .i64 (x.a.ticks+1));have f:x.has x.e:=.inl rfl;refine⟨h.set t (h.k64 _ d) _ (c.block cb (h.lt (.inl rfl)) λe=>(h.sepb _ d x.e f).1 e.symm) ?_ ⟨?_,a.v.keep c λj b e=>a.ne.1 (e▸b),a.m.kept c λe=>a.ne.2.2 e.symm,a.ne,⟨show 0<=x.a.ticks+1 by omega,l⟩,a.few⟩ (λp k i=>(h.ent p k).keep c λj b e=>?_) λj b=>.inl ⟨x,g,b⟩,c.mono λj _ b=>.inr (.inr ⟨_,d,b▸f⟩)⟩
 ·rw[Qtu (y:=⟨x.e,x.vb,x.ym,x.nm,x.mm,upA x.a⟩) h.up g rfl];exact h.mp.kept c λe=>(h.sepb _ d x.e f).2 e.symm
 ·rw[Go.Mem.heap_setCell_same _ x.e 2 _ _ _ _ a.blk];simp[upA]
 ·have:=h.sep p k (t,x) d x.e (e▸b) f
  rw[this]at i;exact i rfl
structure Tkxx(A O:Nat->Prop)(w W3 wr:World)(O':Nat->Prop)(N:Nat)(b:Br)(lo:Option Addr)(lc:Nat)(outs:List Ye)(so:Option Addr)(sO:Nat)(ps:List Qv)(cb pb kb db:Nat):Prop where
 q:b.of N (λk=>(A k\/Qc lo lc k)\/O' k) O' wr cb pb kb db
 kk:Kept O w wr
 nn:∀j,O' j->O j\/w.heap.size<=j
 ow:Own Xw (λ_=>False) W3 wr 80 lo lc outs
 ap:∀k,Qc lo lc k->¬O' k
 rd:Rd Z4 (λk=>(A k\/Qc lo lc k)\/O' k) wr so sO ps
 wl:w.heap.size<=W3.heap.size
 w3:W3.heap.size<=wr.heap.size
theorem Br.oa(h:b.of N A O w cb pb kb db):∀j,O j->A j:=Cq.oa (show Cq N A O w cb pb kb db b.l b.s b.G b.K from h)
theorem Tkxx.bel(h:Tkxx A O w W3 wr O' N b lo lc outs so sO ps cb pb kb db)(a:Bel wr w4):Tkxx A O w W3 w4 O' N b lo lc outs so sO ps cb pb kb db:=
 ⟨Br.bel h.q a,h.kk.trans (a.kept O),h.nn,h.ow.bel a,h.ap,h.rd.bel a,h.wl,Nat.le_trans h.w3 a.size⟩
theorem Tkxx.more(h:Tkxx A O w W3 wr O' N b lo lc outs so sO ps cb pb kb db)(a:N<=N2):Tkxx A O w W3 wr O' N2 b lo lc outs so sO ps cb pb kb db:=
 ⟨Br.more h.q a,h.kk,h.nn,h.ow,h.ap,h.rd,h.wl,h.w3⟩
theorem Tkxx.lt(h:Tkxx A O w W3 wr O' N b lo lc outs so sO ps cb pb kb db)(c:∀k,A k->k<w.heap.size):∀k,((A k\/Qc lo lc k)\/O' k)->k<wr.heap.size:=λk a=>by
 rcases a with (a|a)|a
 ·exact Nat.lt_of_lt_of_le (c k a) h.kk.size
 ·exact h.ow.lt a
 ·exact Br.lt h.q k a
theorem Tkxx.turn(h:Tkxx A O w W3 wr O' N b lo lc outs so sO ps cb pb kb db)(o:Zq (λk=>(A k\/Qc lo lc k)\/O' k) O' wr w4 λA O w=>b2.of N2 A O w cb pb kb db/\Rd Xw A w ao cap pk):
 ∃g,Tkxx A O w W3 w4 g N2 b2 lo lc outs so sO ps cb pb kb db/\Rd Xw (λ_=>False) w4 ao cap pk/\∀{a:Option Addr} {c:Nat} {l:List Int},Rd Qh (λk=>(A k\/Qc lo lc k)\/O' k) wr a c l->Rd Qh (λk=>(A k\/Qc lo lc k)\/g k) w4 a c l:=by
 obtain⟨g,⟨p,q⟩,f,n⟩:=o;refine⟨g,⟨Br.mono p (λj _ d=>d.elim (λh=>.inl (.inl h)) .inr) (λj d=>.inr d),h.kk.onto f h.nn,λj d=>(n j d).elim (h.nn j) λe=>.inr (Nat.le_trans h.kk.size e),?_,λk m e=>?_,?_,h.wl,Nat.le_trans h.w3 f.size⟩,q.mono λ_ _ h=>h.elim,λi=>i.keep f (λk h=>.inr h) λk m d=>d.elim .inl λe=>(n k e).elim .inr λi=>by omega⟩
 ·exact Qxi ((Qxi (B:=O') h.ow).keep (B:=O') f (λ_ h=>h) h.ap λ_ _ h=>h)
 ·rcases n k e with i|i
  ·exact h.ap k m i
  ·have:=h.ow.lt m;omega
 ·exact h.rd.keep f (λk h=>.inr h) λk m d=>d.elim .inl λe=>(n k e).elim .inr λi=>by omega
theorem Tkxx.app(h:Tkxx A O w W3 w4 O' N b lo lc outs so sO ps cb pb kb db)(m:Own Xw (λ_=>False) W3 w5 80 ao' cap' outs')(d:Kept (Qc lo lc) w4 w5)(f:∀k,Qc ao' cap' k->Qc lo lc k\/k=w4.heap.size):
 Tkxx A O w W3 w5 O' N b ao' cap' outs' so sO ps cb pb kb db:=by
 have e:∀j,j<w4.heap.size->((A j\/Qc ao' cap' j)\/O' j)->(A j\/Qc lo lc j)\/O' j:=λj a h=>by
  rcases h with (h|h)|h
  ·exact .inl (.inl h)
  ·exact(f j h).elim (λh=>.inl (.inr h)) λh=>by omega
  ·exact .inr h
 refine⟨Br.keep h.q d (λj a c=>h.ap j c a) (λj a=>.inl (.inr a)) e λj a=>.inr a,h.kk.onto d λi g=>.inr ?_,h.nn,m,λk l c=>?_,h.rd.keep d (λk h=>.inl (.inr h)) e,h.wl,Nat.le_trans h.w3 d.size⟩
 ·obtain⟨_,_,_,a⟩:=h.ow;exact Nat.le_trans h.wl (a i g)
 ·rcases f k l with a|a
  ·exact h.ap k a c
  ·have:=Br.lt h.q k c;omega
end
end Go.Proofs.YtkdpmdfcdgphlaaGreat

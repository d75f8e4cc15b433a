/- Part of this claim's proof. Conditions: as its theorems say. -/
import Derived.Test.YtkdpmdfcdgphlaaGreatM26
set_option linter.all false
set_option maxHeartbeats 4000000
set_option maxRecDepth 100000
namespace Go.Po
open Go.Mem Go.Proofs.YtkdpmdfcdgphlaaGreat
def J8(t:Int):Rec:=⟨3,t,0,false,[],[]⟩
def Ji:St->List Rec->St
 | s,[]=>s
 | s,r::l=>Ji (Qf s r) l
def Qab:St->List Rec->Prop
 | _,[]=>True
 | s,r::l=>Zf s r=0/\i64 r.tid/\i64 r.id/\May s/\Few s/\Qab (Qf s r) l
theorem Qbw:∀(l:List Rec) (s:St) (r:Rec),Ji s (l++[r])=Qf (Ji s l) r
 | [],_,_=>rfl
 | x::l,s,r=>Qbw l (Qf s x) r
theorem Qab.at:∀{l:List Rec} {s:St} {k:Nat} {r:Rec},Qab s l->l[k]?=some r->Zf (Ji s (l.take k)) r=0/\i64 r.tid/\i64 r.id/\May (Ji s (l.take k))/\Few (Ji s (l.take k))/\Ji s (l.take (k+1))=Qf (Ji s (l.take k)) r
 | [],_,_,_,_,h=>by simp at h
 | x::l,s,0,r,h,hk=>by
  obtain⟨a,b,c,d,e,f⟩:=h;simp only[List.getElem?_cons_zero,Option.some.injEq]at hk;subst hk;exact⟨a,b,c,d,e,by simp[Ji]⟩
 | x::l,s,k+1,r,h,hk=>by
  obtain⟨a,b,c,d,e,f⟩:=h;have:=f.at (k:=k) (r:=r) (by simpa using hk);simpa[Ji] using this
structure Kp where
 v:Vw
 last:Nat
 all:List (List UInt8)
 s:St
def Kp.write(x:Kp)(force:Bool)(r:Rec):Kp:=⟨G8 force x.v x.last (encR r),addN x.v x.last,x.all++[encR r],Qf x.s r⟩
def Kp.force(x:Kp):Kp:=⟨Zg (Qe x.last) x.v,x.last,x.all,x.s⟩
structure Kp.Fits(x:Kp)(room:Int)(r:Rec):Prop where
 last:x.last<999
 room:(used x.v:Int)+(6+(encR r).length:Nat)<=room
 few:x.v.length<100000
 all:x.all.length<=1000000
 may:May x.s
 fw:Few x.s
def Kp.backs(x:Kp):List Int->Kp
 | []=>x
 | t::l=>(x.write false (J8 t)).backs l
def Ru(room:Int):Kp->List Int->Prop
 | _,[]=>True
 | x,t::l=>x.Fits room (J8 t)/\i64 t/\Zf x.s (J8 t)=0/\Ru room (x.write false (J8 t)) l
theorem Qab.ok:∀{l:List Rec} {s:St},Qab s l->∀r∈l,Qp r=true/\i64 r.tid/\i64 r.id
 | [],_,_,_,h=>by simp at h
 | x::l,s,h,r,a=>by
  rcases List.mem_cons.1 a with rfl|a
  ·exact⟨(Dp h.1).1,h.2.1,h.2.2.1⟩
  ·exact h.2.2.2.2.2.ok r a
theorem Ru.at:∀{l:List Int} {a:Int} {x:Kp} {k:Nat} {t:Int},Ru a x l->l[k]?=some t->(x.backs (l.take k)).Fits a (J8 t)/\i64 t/\Zf (x.backs (l.take k)).s (J8 t)=0/\x.backs (l.take (k+1))=(x.backs (l.take k)).write false (J8 t)
 | [],_,_,_,_,_,h=>by simp at h
 | y::l,a,x,0,t,h,hk=>by
  obtain⟨b,c,d,e⟩:=h;simp only[List.getElem?_cons_zero,Option.some.injEq]at hk;subst hk;exact⟨b,c,d,by simp[Kp.backs]⟩
 | y::l,a,x,k+1,t,h,hk=>by
  obtain⟨b,c,d,e⟩:=h;have:=e.at (k:=k) (t:=t) (by simpa using hk);simpa[Kp.backs] using this
end Go.Po
namespace Go.Proofs.YtkdpmdfcdgphlaaGreat
open Tryz
open Go.RowKit Go.Mem Go.Po
theorem Qdg{α:Type}[DecidableEq α]:∀l:List α,(Zi l).length<=l.length
 | []=>Nat.le_refl _
 | [x]=>Nat.le_refl _
 | x::y::r=>by
  have:=Qdg (y::r);simp only[Zi];split
  ·simp only[List.length_cons]at this ⊢;omega
  ·simp only[List.length_cons]at this ⊢;omega
theorem Qac(s:St):(J5 s).length<=s.ms.length:=by
 have a:=Qdg (sortI (Xr s s.ms));have b:=M5 s s.ms;have c:(sortI (Xr s s.ms)).length=(Xr s s.ms).length:=List.length_mergeSort ..;rw[J5];omega
theorem kUp{w:World}{g:Nat}{p q a0 a1 a2 a3 a4 a5 a6 a7 b z:Value}{T:TypeId}{c:Nat×Nat}(h:w.heap[g]?=some (.cells #[p,q,a0,a1,a2,a3,a4,a5,a6,a7,b,z] T c)):(∀a:Up w,a.wd.cell? ⟨g,2,none⟩=some a0)/\(∀a:Up w,a.wd.cell? ⟨g,3,none⟩=some a1)/\(∀a:Up w,a.wd.cell? ⟨g,4,none⟩=some a2)/\(∀a:Up w,a.wd.cell? ⟨g,5,none⟩=some a3)/\(∀a:Up w,a.wd.cell? ⟨g,6,none⟩=some a4)/\(∀a:Up w,a.wd.cell? ⟨g,7,none⟩=some a5)/\(∀a:Up w,a.wd.cell? ⟨g,8,none⟩=some a6)/\(∀a:Up w,a.wd.cell? ⟨g,9,none⟩=some a7)/\(∀a:Up w,a.wd.cell? ⟨g,10,none⟩=some b):=
 ⟨Up.cell (cell_of_block h 2 _ rfl),Up.cell (cell_of_block h 3 _ rfl),Up.cell (cell_of_block h 4 _ rfl),Up.cell (cell_of_block h 5 _ rfl),Up.cell (cell_of_block h 6 _ rfl),Up.cell (cell_of_block h 7 _ rfl),Up.cell (cell_of_block h 8 _ rfl),Up.cell (cell_of_block h 9 _ rfl),Up.cell (cell_of_block h 10 _ rfl)⟩
theorem Qqb{w:World}{g:Nat}{p q a0 a1 a2 a3 a4 a5 a6 a7 a z:Value}{T:TypeId}(h:w.heap[g]?=some (.cells #[p,q,a0,a1,a2,a3,a4,a5,a6,a7,a,z] T (0,0))):(w.cell? ⟨g,2,none⟩=some a0/\w.frozen? ⟨g,2,none⟩=false)/\(w.cell? ⟨g,3,none⟩=some a1/\w.frozen? ⟨g,3,none⟩=false)/\(w.cell? ⟨g,4,none⟩=some a2/\w.frozen? ⟨g,4,none⟩=false)/\(w.cell? ⟨g,5,none⟩=some a3/\w.frozen? ⟨g,5,none⟩=false)/\(w.cell? ⟨g,6,none⟩=some a4/\w.frozen? ⟨g,6,none⟩=false)/\(w.cell? ⟨g,7,none⟩=some a5/\w.frozen? ⟨g,7,none⟩=false)/\(w.cell? ⟨g,8,none⟩=some a6/\w.frozen? ⟨g,8,none⟩=false)/\(w.cell? ⟨g,9,none⟩=some a7/\w.frozen? ⟨g,9,none⟩=false)/\(w.cell? ⟨g,10,none⟩=some a/\w.frozen? ⟨g,10,none⟩=false):=
 ⟨⟨cell_of_block h 2 _ rfl,Qa h 2⟩,⟨cell_of_block h 3 _ rfl,Qa h 3⟩,⟨cell_of_block h 4 _ rfl,Qa h 4⟩,⟨cell_of_block h 5 _ rfl,Qa h 5⟩,⟨cell_of_block h 6 _ rfl,Qa h 6⟩,⟨cell_of_block h 7 _ rfl,Qa h 7⟩,⟨cell_of_block h 8 _ rfl,Qa h 8⟩,⟨cell_of_block h 9 _ rfl,Qa h 9⟩,⟨cell_of_block h 10 _ rfl,Qa h 10⟩⟩
theorem kAt{w:World}{g:Nat}{p q a0 a1 a2 a3 a4 a5 a6 a7 a z:Value}{T:TypeId}{b:Nat×Nat}(h:w.heap[g]?=some (.cells #[p,q,a0,a1,a2,a3,a4,a5,a6,a7,a,z] T b)):w.cell? ⟨g,2,none⟩=some a0/\w.cell? ⟨g,3,none⟩=some a1/\w.cell? ⟨g,4,none⟩=some a2/\w.cell? ⟨g,5,none⟩=some a3/\w.cell? ⟨g,6,none⟩=some a4/\w.cell? ⟨g,7,none⟩=some a5/\w.cell? ⟨g,8,none⟩=some a6/\w.cell? ⟨g,9,none⟩=some a7/\w.cell? ⟨g,10,none⟩=some a:=
 ⟨cell_of_block h 2 _ rfl,cell_of_block h 3 _ rfl,cell_of_block h 4 _ rfl,cell_of_block h 5 _ rfl,cell_of_block h 6 _ rfl,cell_of_block h 7 _ rfl,cell_of_block h 8 _ rfl,cell_of_block h 9 _ rfl,cell_of_block h 10 _ rfl⟩
theorem rUp{w:World}{g:Nat}{a0 a1 a2 a3 a4 a5:Value}{T:TypeId}{b:Nat×Nat}(h:w.heap[g]?=some (.cells #[a0,a1,a2,a3,a4,a5] T b)):(∀a:Up w,a.wd.cell? ⟨g,0,none⟩=some a0)/\(∀a:Up w,a.wd.cell? ⟨g,1,none⟩=some a1)/\(∀a:Up w,a.wd.cell? ⟨g,2,none⟩=some a2)/\(∀a:Up w,a.wd.cell? ⟨g,3,none⟩=some a3)/\(∀a:Up w,a.wd.cell? ⟨g,4,none⟩=some a4)/\(∀a:Up w,a.wd.cell? ⟨g,5,none⟩=some a5):=
 ⟨Up.cell (cell_of_block h 0 _ rfl),Up.cell (cell_of_block h 1 _ rfl),Up.cell (cell_of_block h 2 _ rfl),Up.cell (cell_of_block h 3 _ rfl),Up.cell (cell_of_block h 4 _ rfl),Up.cell (cell_of_block h 5 _ rfl)⟩
theorem kSt{w:World}{g:Nat}{a0 a1 a2 a3 a4 a5 a6 a7 b:Value}{T:TypeId}{c:Nat×Nat}(h:w.heap[g]?=some (.cells #[a0,a1,a2,a3,a4,a5,a6,a7,b] T c)):(∀a:Up w,a.wd.cell? ⟨g,0,none⟩=some a0)/\(∀a:Up w,a.wd.cell? ⟨g,1,none⟩=some a1)/\(∀a:Up w,a.wd.cell? ⟨g,2,none⟩=some a2)/\(∀a:Up w,a.wd.cell? ⟨g,3,none⟩=some a3)/\(∀a:Up w,a.wd.cell? ⟨g,4,none⟩=some a4)/\(∀a:Up w,a.wd.cell? ⟨g,5,none⟩=some a5)/\(∀a:Up w,a.wd.cell? ⟨g,6,none⟩=some a6)/\(∀a:Up w,a.wd.cell? ⟨g,7,none⟩=some a7)/\(∀a:Up w,a.wd.cell? ⟨g,8,none⟩=some b):=
 ⟨Up.cell (cell_of_block h 0 _ rfl),Up.cell (cell_of_block h 1 _ rfl),Up.cell (cell_of_block h 2 _ rfl),Up.cell (cell_of_block h 3 _ rfl),Up.cell (cell_of_block h 4 _ rfl),Up.cell (cell_of_block h 5 _ rfl),Up.cell (cell_of_block h 6 _ rfl),Up.cell (cell_of_block h 7 _ rfl),Up.cell (cell_of_block h 8 _ rfl)⟩
theorem Qlf(A D:Nat->Prop)(w:World)(n:∀k,A k->k<w.heap.size)(s:Nat)(F:Int)(v:Vw)(h:Dk A D w s F v)(J:Int)(br:Qz J=true)
 (s0:St) (O:May s0) (frm last:Nat) (all:List (List UInt8)) (m:Te v J s0 frm last all)
 (I:(used v:Int)+used v<=F) (q:v.length<100000)
 (C:List Rec) (K:all=C.map encR) (L:Qab s0 C) (G:C.length<=1000000)
 (z:May (Ji s0 C))
 (o:Ru F ⟨Je v last,last,all,Ji s0 C⟩ (J5 (Ji s0 C)))
 (x:Kp) (M:x=Kp.backs ⟨Je v last,last,all,Ji s0 C⟩ (J5 (Ji s0 C))) (N:x.last<=999):
 Calls prog 36 #[.pointer (some ⟨s,0,none⟩),.int .i64 J] w λe w'=>∃l E,e=.returned (.tuple #[.pointer (some ⟨l,0,none⟩),.int .i64 0])/\KAt (λk=>A k\/E k) E w' l s F x.force.v x.last x.all x.s/\Kept D w w'/\∀k,E k->D k\/w.heap.size<=k:=by
 obtain⟨bB,bZ,H,cl,cg,bl,bF,ck,ch,cc,co,cu⟩:=U2 n h m I q K L G z o M O;have cp:=Zh N;have cV:=Js br;have cF:frm<=999:=by have:=m.tops.1;have:=m.tops.2.1;omega
 clear n h m I q K L G z o M O N;go_enter func36,ntmps36;go_wp2_with fail;refine(X7 J _).mono ?_;rw[br];rintro e db ⟨rfl,rfl⟩;go_wp2_with fail;have m:=Gz A D w s F v bZ.o Zr (by show 4<=maxLen;simp[maxLen]);rw[Ym H.n2]at m;refine m.mono ?_;rintro e dc ⟨⟨c,rfl⟩,U,k2⟩;obtain⟨bi,bG⟩:=Zh2 U k2;clear m U k2;go_wp2_with fail;refine(Lv J br _).zR λn m=>?_
 have aR:=Zh m;clear m;go_upto_region 8 with (fail);obtain⟨l,P⟩:=Zx n.heap.size;rw[<-P];obtain⟨T,q⟩:=Zx (n.alloc (.cells #[.pointer (some ⟨s,0,none⟩),.pointer none,.int .i64 J,.int .i64 1,.int .i64 1,.int .i64 0,.slice none 0 0,.slice none 0 0,.slice none 0 0,.slice none 0 0,.slice none 0 0,.bool false] 128));have I:=Zb q;have K:T.heap[l]?=some (.cells #[.pointer (some ⟨s,0,none⟩),.pointer none,.int .i64 J,.int .i64 1,.int .i64 1,.int .i64 0,.slice none 0 0,.slice none 0 0,.slice none 0 0,.slice none 0 0,.slice none 0 0,.bool false] 128 (0,0)):=by rw[q,P];exact heap_alloc_new _ _
 rw[<-q];obtain⟨G,L⟩:=Zx (λk=>A k\/k=l);have M:=Zh (show ∀k,G k↔A k\/k=l fromλk=>by rw[L]);have N:=(bi.bel aR.o).mono (λk Z h=>((M.o k).1 h).elim id λh=>by omega) λk h=>(M.o k).2 (.inl (bi.oa k h))
 obtain⟨ah,bH,bC⟩:=Zh3 (N.bel I) (bG.trans ((aR.trans I).kept _)) K;have cY:w.heap.size<=l:=by have:=bG.size;have:=aR.size;omega
 have cZ:=Qb K;have bu:¬D l:=λh=>by have:=bi.lt l h;have:=aR.size;omega
 have aO:=Zh (show ∀k,G k->k<T.heap.size fromλk h=>((M.o k).1 h).elim (λh=>by have:=bB.o k h;omega) λh=>by omega);have O:Calls prog 99 #[.pointer (some ⟨s,0,none⟩),.string Xd] T λe w'=>∃ao cap bf,e=.returned (.tuple #[.slice ao (Xx Xd v).length cap,.bool bf])/\Bel T w'/\((bf=false/\s0=Z8 J/\frm=0)\/(bf=true/\s0.broker=J/\Xx Xd v=laidB s0 frm/\Rd Ql G w' ao cap (laidB s0 frm))):=by
  rcases H.st with⟨n,o,z⟩|⟨f,n,o,z⟩
  ·refine(Sk G D T s F v ah.o Xd (by show 5<=maxLen;simp[maxLen]) n).zS ?_
   exact⟨none,0,false,by rw[Xx,n];rfl,Bel.refl _,.inl ⟨rfl,z,o⟩⟩
  ·refine(Cf G D T aO.o s F v ah.o Xd (by show 5<=maxLen;simp[maxLen]) f n).mono ?_
   rintro e w' ⟨⟨ao,cap,rfl,Q⟩,be⟩;have m:Xx Xd v=laidB s0 frm:=by rw[Xx,n];exact o
   rw[o]at Q;exact⟨ao,cap,true,by rw[m,<-o],be,.inr ⟨rfl,z,m,Q⟩⟩
 have cj:=Zh O;obtain⟨cN,m⟩:=Zx ((Xx Xd v).length);have bD:=Zh m;clear P q I K L N O m;go_upto_if 38 with (first|(refine cj.mono ?_;rintro e cO ⟨ao,cap,bf,rfl,q,K⟩;rw[<-bD.o];have aN:=Zh q;have cn:=Zh K;clear q K));go_cut[7,9,10,33,35,37,38] from 39 to 58 (λt _ _ _ _ _ _ q=>t=.int .i64 frm/\Hid (∃aw ap az au av an ay ar ax aq,q.heap[l]?=some (.cells #[.pointer (some ⟨s,0,none⟩),.pointer none,.int .i64 s0.broker,.int .i64 s0.nextId,.int .i64 s0.nextSeq,.int .i64 s0.tx,.slice aw s0.ms.length ap,.slice az s0.waits.length au,.slice av s0.ends.length an,.slice ay s0.opens.length ar,.slice ax s0.noes.length aq,.bool false] 128 (0,0))/\StR G q s0 aw ap az au av an ay ar ax aq/\Kept (λk=>k=l) T q))
 case first=>
  have K:=cn.o;rcases K with⟨rfl,o,z⟩|⟨rfl,o,z,L⟩
  ·have S:=Zh o
   have aT:=Zh z;clear o z;go_wp2_with fail;go_meet
   case rel=>
    refine⟨by rw[aT.o];rfl,Zh ⟨none,0,none,0,none,0,none,0,none,0,?_,?_,aN.kept _⟩⟩
    ·rw[S.o];exact aN.heap bC.o
    ·rw[S.o];exact Qo5 _ _ _
  ·have m:cN=(laidB s0 frm).length:=by rw[bD.o,z]
   have q:=Qht s0 cu.o frm (by omega) G cO (λk h=>Nat.lt_of_lt_of_le (aO.o k h) aN.size) ao cap L;rw[<-m]at q;obtain⟨O,S⟩:=Zh2 q o;clear o z L m q;go_wp2_with fail;refine O.mono ?_;rintro e aC ⟨⟨aJ,aE,aM,aH,aI,aD,aL,aG,aK,aF,rfl,N⟩,I⟩;obtain⟨R,q⟩:=Zh2 N (aN.trans I);have m:=q.heap bC;have aj:=Zh m;have cJ:=Qb m;obtain⟨⟨U,bP⟩,⟨aW,bQ⟩,⟨aX,bR⟩,⟨aY,bS⟩,⟨aZ,bT⟩,⟨ba,bU⟩,⟨bb,bV⟩,⟨bc,bW⟩,⟨aV,bO⟩⟩:=Qqb m;have V:(s0.broker !=J)=false:=by rw[S.o];simp
   clear N I m;go_wp2_with fail;go_meet
   case rel=>
    have am:=G9 aC l (.int .i64 s0.broker) (.int .i64 s0.nextId) (.int .i64 s0.nextSeq) (.int .i64 s0.tx) (.slice aJ s0.ms.length aE) (.slice aM s0.waits.length aH) (.slice aI s0.ends.length aD) (.slice aL s0.opens.length aG) (.slice aK s0.noes.length aF);exact⟨rfl,Zh ⟨aJ,aE,aM,aH,aI,aD,aL,aG,aK,aF,Pg _ _ aj,R.keep am (λk h=>(M k).2 (.inr h)) (λ_ _ h=>h),(q.kept _).trans am⟩⟩
 case rest=>
  obtain⟨rfl,q⟩:=hcut;obtain⟨aw,ap,az,au,av,an,ay,ar,ax,aq,I,N,O⟩:=q.o;obtain⟨cd,ce,bj⟩:=Zh3 I N O;clear q I N O;have cK:=bj.size;have q:=ah.keep bj.o (λk h e=>bu (e▸h)) (λk h=>(M.o k).2 (.inr h)) (λ_ _ h=>h) ah.oa;have a9:=Qdf G D wc (λk h=>Nat.lt_of_lt_of_le (aO.o k h) cK) s F v q frm cF last (by rw[Ym H.n1];exact H.tops) (by rw[Ym H.n1];exact H.good) (by rw[Ym H.n1];exact H.err) cl.o cg.o;rw[Ym H.n1,H.segs]at a9;have cm:=Zh a9;clear q a9;go_wp2_with fail;refine cm.mono ?_;rintro e aC ⟨V,R,O,rfl,I,m,W,N⟩;obtain⟨bn,aj,bq,bo⟩:=Zh4 I m W N;have q:=m.heap bu cd;have cJ:=Qb q;have c1:=cell_of_block q 1 _ rfl;have al:=Qa q 1;have cr:=Zh q;clear I m W N q;go_wp2_with fail;obtain⟨ak,X⟩:=Zx (aC.setCell ⟨l,1,none⟩ (.pointer (some ⟨V,0,none⟩)));rw[<-X];have m:=X▸Kept.set1 aC l 1 _;have ad:ak.heap[l]?=some (.cells #[.pointer (some ⟨s,0,none⟩),.pointer (some ⟨V,0,none⟩),.int .i64 s0.broker,.int .i64 s0.nextId,.int .i64 s0.nextSeq,.int .i64 s0.tx,.slice aw s0.ms.length ap,.slice az s0.waits.length au,.slice av s0.ends.length an,.slice ay s0.opens.length ar,.slice ax s0.noes.length aq,.bool false] 128 (0,0)):=by
   have:=Yp aC l 1 (.pointer (some ⟨V,0,none⟩)) cr.o;rw[X,this];simp
  have ae:¬R l:=λh=>(bq.o l h).elim bu λh=>by omega
  have af:¬O l:=λh=>by have:=bo.o l h;omega
  obtain⟨I,a8⟩:=Zx (λk=>k=l\/R k\/O k);have ai:=Zh (show ∀k,I k↔k=l\/R k\/O k fromλk=>by rw[a8]);obtain⟨q,ac⟩:=Zx (λk=>A k\/I k);have N:=Zh (show ∀k,q k↔A k\/I k fromλk=>by rw[ac]);have Y:∀k,k=l->q k:=λk h=>(N.o k).2 (.inr ((ai.o k).2 (.inl h)))
  have ab:∀k,k<wc.heap.size->q k->G k:=λk Z h=>by
   rcases (N.o k).1 h with h|h
   ·exact(M k).2 (.inl h)
   ·rcases (ai.o k).1 h with h|h|h
    ·exact(M k).2 (.inr h)
    ·exact(bq.o k h).elim (ah.oa k) λh=>by omega
    ·have:=bo.o k h;omega
  have Z:∀k,q k->G k\/R k\/O k:=λk h=>by
   rcases (N.o k).1 h with h|h
   ·exact .inl ((M k).2 (.inl h))
   ·rcases (ai.o k).1 h with h|h
    ·exact .inl ((M k).2 (.inr h))
    ·exact .inr h
  have W:∀k,R k\/O k->q k:=λk h=>(N.o k).2 (.inr ((ai.o k).2 (.inr h)))
  have aa:∀k,R k\/O k->¬k=l:=λk h e=>by subst e;exact h.elim ae af
  obtain⟨bI,c8,cs,bk,bE,aS⟩:=Zh6 (show Lg q R O ak V s F (Je v last) last all from(bn.mono (λk _ h=>Z k h) W).keep m aa Y (λ_ _ h=>h) W) (show StR q ak s0 aw ap az au av an ay ar ax aq from(ce.keep aj.o ah.oa ab).keep m Y λ_ _ h=>h) ad aa W Y;have aP:=Zh (show ∀k,q k->k<ak.heap.size fromλk h=>by
   have:=m.size;have:=aj.size;rcases Z k h with h|h|h
   ·have:=aO.o k h;omega
   ·have:=bn.d.lt k h;omega
   ·have:=bn.l.lt k h;omega)
  have da:=Nat.le_trans aj.size m.size;have cq:=Zh (show Kept D w ak from((bH.trans' bj.o λk h=>.inr (by omega)).trans aj.o).trans' m λk h=>.inr (by omega));have cU:all.length=C.length:=by rw[bl.o,List.length_map]
  have cD:all.length<=1000000:=by have:=ck.o;omega
  have ca:=Zh (Lc q O ak aP.o V s last all bI.l cD (λb be=>by
   rw[bl.o]at be;obtain⟨r,Q,rfl⟩:=List.mem_map.1 be;have:=Mq (bF.ok r Q).1;simp only[Xj,Bool.and_eq_true,decide_eq_true_eq]at this;omega))
  clear X m ad ae af a8 ac Y ab Z W aa c1 al;refine ca.mono ?_;rintro e w8 ⟨⟨cR,cS,rfl,W⟩,m⟩;obtain⟨cb,bh,ct,c9⟩:=Zh4 (W.rd aP.o) m (m.heap cs.o) (c8.bel m);clear W m;go_wp2;go_loopw[13,14,15,78] (λ_ _ _ a wr=>∃(i:Nat) (m:St) (ac:Option Addr) (X:Nat) (af:Option Addr) (aa:Nat) (ab:Option Addr) (W:Nat) (ae:Option Addr) (Z:Nat) (ad:Option Addr) (Y:Nat),i<=all.length/\a=.int .i64 i/\Hid (m=Ji s0 (C.take i))/\Hid (wr.heap[l]?=some (.cells #[.pointer (some ⟨s,0,none⟩),.pointer (some ⟨V,0,none⟩),.int .i64 m.broker,.int .i64 m.nextId,.int .i64 m.nextSeq,.int .i64 m.tx,.slice ac m.ms.length X,.slice af m.waits.length aa,.slice ab m.ends.length W,.slice ae m.opens.length Z,.slice ad m.noes.length Y,.bool false] 128 (0,0)))/\Hid (StR q wr m ac X af aa ab W ae Z ad Y)/\Hid (Kept (λk=>k=l) w8 wr)) (λ_ _ _ a _=>all.length-(intOf a).toNat)
  case atStart=>exact⟨0,s0,aw,ap,az,au,av,an,ay,ar,ax,aq,Nat.zero_le _,rfl,Zh rfl,ct,c9,Zh (Kept.refl _ _)⟩
  case round=>
   obtain⟨i,m,ac,X,af,aa,ab,W,ae,Z,ad,Y,cX,rfl,bv,P,K,al⟩:=hrel;by_cases cW:i<all.length
   ·have bz:i<C.length:=by omega
    obtain⟨r,Q⟩:∃r,C[i]?=some r:=⟨C[i],by simp⟩;have bw:all[i]?=some (encR r):=by rw[bl.o,List.getElem?_map,Q];rfl
    obtain⟨n,o,z,L,bm,bs⟩:=bF.at Q;rw[<-bv.o]at n L bm bs;obtain⟨bL,S,aT,aU,bM,c5⟩:=Zh6 n o z L bm bs;have bg:=(Dp n).1;have bx:∀p∈r.puts,p.q.size<=maxLen:=λp aA=>by have:=(Un bg aA).1;simp only[maxLen];omega
    have ci:=Zh bx;obtain⟨g,off,cB,cC,cE,cG,bd,bt⟩:=Md (cb.keep al.o aS.o λ_ _ h=>h) bw;have cL:=Nat.le_trans bh.size al.size;have aQ:=Zh (show ∀k,q k->k<wr.heap.size fromλk h=>by have:=aP.o k h;omega);have cH:(0:Int)<=(i:Int):=by omega
    have cI:(i:Int)<(all.length:Int):=by omega
    have cM:IntKind.i64.wrap ((i:Int)+1)=((i+1:Nat):Int):=by rw[IntKind.wrap_i64];omega
    obtain⟨cT,aB⟩:=Zx ((encR r).length);rw[<-aB]at bd;subst cE;have aA:=Si r o z q wr aQ cB cC bt bg;rw[<-aB]at aA;have cf:=Zh aA;clear bz Q bw n o z L bm bs bg bx bt aB aA;go_wp2_with fail;refine cf.mono ?_;rintro e cP ⟨⟨rp,bm,bw,bs,rfl,aA,aB⟩,Q⟩;obtain⟨bX,cv,cw⟩:=Zh3 Q aA aB;clear Q aA aB bd;go_wp2_with fail;obtain⟨cA,aA⟩:=Zx (cP.alloc (.cells #[.int .i64 r.kind,.int .i64 r.tid,.int .i64 r.id,.bool r.yes,.slice rp r.parts.length bm,.slice bw r.puts.length bs] 124));rw[<-aA];have Q:=Zb aA;have bt:=Zn aA;obtain⟨aB,c6,bJ,bK⟩:=Zh4 (bX.trans Q) bt (cv.bel Q) (cw.bel Q);have can:=Zh (λbx (bg:Bel cA bx)=>Re m r ac X af aa ab W ae Z ad Y rp bm bw bs q bx (K.bel (aB.trans bg)) aU bM S aT ci (bJ.bel bg) (bK.bel bg));rw[bL.o]at can;obtain⟨bx,bz,b0,b1,b2,b3,b4,b5,bg⟩:=kUp (aB.heap P.o);obtain⟨b6,b7,b8,t3,b9,bA⟩:=rUp bt;clear aA Q bt;refine Qs (by kernel_rfl) (by kernel_rfl) ?_;repeat(go_big_quiet_step(first|(go_at_call 105;exact Calls.up (can.o _ (Up.bel _)))))
    refine Xg λQ Q=>?_
    obtain⟨bt,c7,cx,cy⟩:=Zh4 (aB.trans Q) (Q.heap c6.o) (bJ.bel Q) (bK.bel Q);clear Q bx bz b0 b1 b2 b3 b4 b5 bg b6 b7 b8 t3 b9 bA;go_upto_region 24 with (fail);refine Zp [9] 10 (by kernel_rfl) rfl (by kernel_rfl) (λ_ d _ _ _ h=>by cases d<;>exact h) ?_;intro cQ Q a9;obtain⟨bx,bz,b0,b1,b2,b3,b4,b5,bg⟩:=kUp (Q.heap (bt.heap P.o));obtain⟨b6,b7,b8,t3,b9,bA⟩:=rUp (Q.heap c7.o);obtain⟨aA,cz,c4⟩:=Zh3 (bt.trans Q) (cx.bel Q) (cy.bel Q);clear a9 Q;refine Xt 4 [0,1,2,3,4,5] (by kernel_rfl) rfl ?_;simp only[Za,List.getElem?_cons_zero,List.getElem?_cons_succ];repeat(go_big_quiet_step(fail))
    refine wpQuiet_nil ?_;clear bx bz b0 b1 b2 b3 b4 b5 bg b6 b7 b8 t3 b9 bA;refine Qq 3 6 (by kernel_rfl) rfl ?_;go_wp2_with fail;refine(Y3 m ac X af aa ab W ae Z ad Y r rp bm bw bs q cQ (λk h=>Nat.lt_of_lt_of_le (aQ k h) aA.size) (K.bel aA) aU bM S aT cz c4 bL).mono ?_;rintro e b1 ⟨aJ,aE,aM,aH,aI,aD,aL,aG,aK,aF,rfl,bx,a9⟩;obtain⟨bz,bg,b0⟩:=Zh3 a9 (aA.trans a9) bx;have Q:=Zh (bg.heap P);obtain⟨⟨U,bP⟩,⟨aW,bQ⟩,⟨aX,bR⟩,⟨aY,bS⟩,⟨aZ,bT⟩,⟨ba,bU⟩,⟨bb,bV⟩,⟨bc,bW⟩,⟨aV,bO⟩⟩:=Qqb Q.o;have b2:=Qb Q;clear bx a9;go_wp2_with fail;refine Zl bz ?_;refine J6 1 [7,8] (by kernel_rfl) rfl ?_;simp only[Za,List.getElem?_cons_zero,List.getElem?_cons_succ];repeat(go_big_quiet_step(fail))
    refine wpQuiet_nil ?_;refine Qq 0 9 (by kernel_rfl) rfl ?_;go_wp2_with fail;refine Z6 ?_;refine X0 (by kernel_rfl) ?_;clear U aW aX aY aZ ba bb bc aV bP bQ bR bS bT bU bV bW bO;go_wp2_with fail;have am:=G9 b1 l (.int .i64 (Qf m r).broker) (.int .i64 (Qf m r).nextId) (.int .i64 (Qf m r).nextSeq) (.int .i64 (Qf m r).tx) (.slice aJ (Qf m r).ms.length aE) (.slice aM (Qf m r).waits.length aH) (.slice aI (Qf m r).ends.length aD) (.slice aL (Qf m r).opens.length aG) (.slice aK (Qf m r).noes.length aF);obtain⟨a9,bx⟩:=Zh2 (b0.keep am aS.o λ_ _ h=>h) (al.trans ((bg.kept _).trans am));clear am;go_roundw
    case rel=>exact⟨i+1,Qf m r,aJ,aE,aM,aH,aI,aD,aL,aG,aK,aF,by omega,by go_num,Zh c5.symm,Zh (Pg _ _ Q.o),a9,bx⟩
    case measure=>simp[intOf];omega
   ·obtain rfl:i=all.length:=by omega
    have bw:m=Ji s0 C:=by
     have:=bv.o;rwa [List.take_of_length_le (by omega)]at this
    have bg:=bw▸ch.o;have cL:=Nat.le_trans bh.size al.size;have aQ:=Zh (show ∀k,q k->k<wr.heap.size fromλk h=>by have:=aP.o k h;omega);have aB:=co.o;have a9:=cc.o;rw[<-bw]at aB a9;obtain⟨am,bx⟩:=Zx (Kp.mk (Je v last) last all m);rw[<-bx]at aB a9;have bs:=(bh.kept _).trans al;have b3:=Zh (show KAt (λk=>A k\/I k) I wr l s F am.v am.last am.all am.s from by
     rw[bx];exact⟨⟨V,R,O,_,ac,X,af,aa,ab,W,ae,Z,ad,Y,P,(bI.keep bs bk aS (λ_ _ h=>h) bE).mono (λk _ h=>(N k).2 h) (λk h=>(N k).1 (bE k h)),K.mono (λk _ h=>(N k).2 h),λh=>bk l (.inl h) rfl,λh=>bk l (.inr h) rfl,ai⟩,(N l).1 (aS l rfl)⟩)
    have bm:=Zh (show Kept D w wr from cq.trans' bs λk h=>.inr (by omega));have b4:=bg.few;have b6:=Qk bg.tw;have b5:=Qk bg.tp;have aA:=Qr5 m ac X af aa ab W ae Z ad Y q wr K.o (by omega);obtain⟨Q,bt⟩:=Zx (J5 m);rw[<-bt]at aA aB a9;have b7:Q.length<=72:=by
     have bz:=Qac m;rw[<-bt]at bz;omega
    obtain⟨b1,b2,b0⟩:=Zh3 aA aB a9;obtain⟨U,aW,aX,aY,aZ,ba,bb,bc,aV⟩:=kAt P.o;clear bw bg aB a9 bx bs b4 b6 b5 aA bt bv al K;go_wp2_with fail;refine b1.mono ?_;rintro e bg ⟨bw,bv,rfl,a9,K⟩;obtain⟨bt,al,bs⟩:=Zh3 (a9.rd aQ.o) K (b3.bel K);clear a9 K U aW aX aY aZ ba bb bc aV;go_wp2;go_loopw[17,18,114] (λ_ _ a K=>∃(j:Nat) (y:Kp) (E:Nat->Prop),j<=Q.length/\a=.int .i64 j/\Hid (y=am.backs (Q.take j))/\Hid (KAt (λk=>A k\/E k) E K l s F y.v y.last y.all y.s)/\Hid (Kept I bg K)/\Hid (∀k,E k->I k\/bg.heap.size<=k)) (λ_ _ a _=>Q.length-(intOf a).toNat)
    case atStart=>exact⟨0,am,I,Nat.zero_le _,rfl,Zh rfl,bs,Zh (Kept.refl _ _),Zh λk h=>.inl h⟩
    case round=>
     obtain⟨j,y,E,bb,rfl,aY,a9,K,aB⟩:=hrel;by_cases ba:j<Q.length
     ·obtain⟨U,aV⟩:∃U,Q[j]?=some U:=⟨Q[j],by simp⟩
      obtain⟨n,o,z,L⟩:=b0.at aV;rw[<-aY.o]at n z L;obtain⟨g,off,aA,cG,bd⟩:=Yf (bt.keep (B:=q) K.o (λk h=>(N.o k).2 (.inr h)) λ_ _ h=>h) aV;have cH:(0:Int)<=(j:Int):=by omega
      have cI:(j:Int)<(Q.length:Int):=by omega
      have cM:IntKind.i64.wrap ((j:Int)+1)=((j+1:Nat):Int):=by rw[IntKind.wrap_i64];omega
      have aW:∀k,A k\/E k->k<wr.heap.size:=λk h=>h.elim (λh=>by have:=bB.o k h;have:=bm.size;have:=al.size;have:=K.size;omega) (a9.lt k)
      have aX:=Qbp a9.o aW n.may n.fw (J8 U) none 0 none 0 o (show i64 0 by simp[i64]) (Rd.nil _ _ _ none 0 (Nat.zero_le _)) (Rd.nil _ _ _ none 0 (Nat.zero_le _)) false z n.last n.room n.few n.all;obtain⟨aZ,aU⟩:=Zh2 aX L;subst aA;clear aV n o z L aW aX;go_wp2_with fail;refine aZ.mono ?_;rintro e aX ⟨rfl,L,k3,n,aV⟩;obtain⟨o,z,aW⟩:=Zh3 (k3.mono (B:=λk=>A k\/L k) (λk _ h=>h.elim (λh=>.inl (.inl h)) .inr) λk h=>.inr h) (K.trans' n aB.o) (show ∀k,L k->I k\/bg.heap.size<=k fromλk h=>(aV k h).elim (aB.o k) λh=>.inr (Nat.le_trans K.size h));clear k3 n aV bd;go_wp2;go_roundw
      case rel=>exact⟨j+1,y.write false (J8 U),L,by omega,by go_num,Zh aU.symm,o,z,aW⟩
      case measure=>simp[intOf];omega
     ·obtain rfl:j=Q.length:=by omega
      have aV:y=x:=by
       have:=aY.o;rw[List.take_of_length_le (Nat.le_refl _)]at this;rw[this,b2.o]
      subst aV;have L:=Qax a9 cp;have U:=Zh L;clear L;go_wp2_with fail;refine U.mono ?_;rintro e aX ⟨rfl,k3,n⟩;obtain⟨o,z⟩:=Zh2 k3 n;clear k3 n;go_wp2;go_ret2;have L:=bm.size;have aW:=al.size;have a8:∀k,I k->D k\/w.heap.size<=k:=λk h=>by
       have bz:=bH.size;rcases (ai.o k).1 h with h|h|h
       ·exact .inr (by omega)
       ·exact(bq.o k h).imp id λh=>by omega
       ·exact .inr (by have:=bo.o k h;omega)
      have n:∀k,E k->D k\/w.heap.size<=k:=λk h=>(aB.o k h).elim (a8 k) λh=>.inr (by omega)
      exact⟨l,E,rfl,o,((bm.trans (al.kept _)).trans' K a8).trans' z n,n⟩
theorem Qg0(A d:Nat->Prop)(w:World)(g:∀k,A k->k<w.heap.size)(b:Nat)(s:Int)(v:Vw)(h:Dk A d w b s v)(a:Int)(n:Qz a=true)
 (s0:St) (o:May s0) (frm:Nat) (p:frm<=999) (f:File) (l:Qg Zr v=none) (i:Qg Xd v=some f) (j:f.b=laidB s0 frm) (m:s0.broker≠a):
 Calls prog 36 #[.pointer (some ⟨b,0,none⟩),.int .i64 a] w λe w'=>e=.returned (.tuple #[.pointer none,.int .i64 3])/\Kept d w w':=by
 obtain⟨D,H,E,F,I,L⟩:=Zh6 g h i j l o;have ar:=Js n;have au:(s0.broker !=a)=true:=by simpa using m
 clear g h i j l o m;go_enter func36,ntmps36;go_wp2_with fail;refine(X7 a _).mono ?_;rw[n];rintro e ay ⟨rfl,rfl⟩;go_wp2_with fail;have g:=Gz A d w b s v H.o Zr (by show 4<=maxLen;simp[maxLen]);rw[Ym I.o]at g;refine g.mono ?_;rintro e az ⟨⟨c,rfl⟩,m,k2⟩;obtain⟨B,x⟩:=Zh2 m k2;clear g m k2;go_wp2_with fail;refine(Lv a n _).zR λl g=>?_
 have i:=Zh g;clear g;go_wp2_with fail;obtain⟨r,o⟩:=Zx l.heap.size;rw[<-o];obtain⟨j,g⟩:=Zx (l.alloc (.cells #[.pointer (some ⟨b,0,none⟩),.pointer none,.int .i64 a,.int .i64 1,.int .i64 1,.int .i64 0,.slice none 0 0,.slice none 0 0,.slice none 0 0,.slice none 0 0,.slice none 0 0,.bool false] 128));have l:=Zb g;have z:j.heap[r]?=some (.cells #[.pointer (some ⟨b,0,none⟩),.pointer none,.int .i64 a,.int .i64 1,.int .i64 1,.int .i64 0,.slice none 0 0,.slice none 0 0,.slice none 0 0,.slice none 0 0,.slice none 0 0,.bool false] 128 (0,0)):=by rw[g,o];exact heap_alloc_new _ _
 rw[<-g];obtain⟨C,y,G⟩:=Zh3 ((B.bel i.o).bel l) (x.trans ((i.trans l).kept _)) z;have aw:w.heap.size<=r:=by have:=x.size;have:=i.size;omega
 have t:=Zh (show ∀k,A k->k<j.heap.size fromλk h=>by have:=D.o k h;have:=y.size;omega);obtain⟨ax,p⟩:=Zx ((laidB s0 frm).length);have q:=Cf A d j t.o b s v C.o Xd (by show 5<=maxLen;simp[maxLen]) f E.o;rw[F.o,<-p]at q;obtain⟨K,J⟩:=Zh2 q p;clear o g l z p q;refine K.mono ?_;rintro e M ⟨⟨ao,cap,rfl,o⟩,g⟩;have l:=Qht s0 L.o frm (by omega) A M (λk h=>Nat.lt_of_lt_of_le (t.o k h) g.size) ao cap o;rw[<-J.o]at l;obtain⟨q,p⟩:=Zh2 l g;clear o g l;go_wp2_with fail;refine q.mono ?_;rintro e N ⟨⟨U,P,X,S,T,O,W,R,V,Q,rfl,z⟩,o⟩;have l:=Zh (p.trans o);have g:=l.heap G;have av:=Qb g;obtain⟨⟨m,ai⟩,⟨Z,aj⟩,⟨aa,ak⟩,⟨ab,al⟩,⟨ac,am⟩,⟨ad,an⟩,⟨ae,ap⟩,⟨af,aq⟩,⟨Y,ah⟩⟩:=Qqb g;clear z o g;go_wp2_with fail;go_ret2;have g:=G9 N r (.int .i64 s0.broker) (.int .i64 s0.nextId) (.int .i64 s0.nextSeq) (.int .i64 s0.tx) (.slice U s0.ms.length P) (.slice X s0.waits.length S) (.slice T s0.ends.length O) (.slice W s0.opens.length R) (.slice V s0.noes.length Q);exact⟨rfl,y.trans' ((l.kept _).trans g) λk h=>.inr (by omega)⟩
end Go.Proofs.YtkdpmdfcdgphlaaGreat
namespace Go.Po
open Go.Mem Go.Proofs.YtkdpmdfcdgphlaaGreat
def Gm(v:Vw)(last:Nat)(s:St):Nat->Vw
 | 0=>v
 | 1=>Zg (Qe last) v
 | 2=>Xi Zr (laidB s (last+1)) (Zg (Qe last) v)
 | 3=>Zg Zr (Xi Zr (laidB s (last+1)) (Zg (Qe last) v))
 | 4=>moved Zr Xd ⟨laidB s (last+1),(laidB s (last+1)).length,true⟩ (Zg Zr (Xi Zr (laidB s (last+1)) (Zg (Qe last) v)))
 | _=>Wt (last+1) (moved Zr Xd ⟨laidB s (last+1),(laidB s (last+1)).length,true⟩ (Zg Zr (Xi Zr (laidB s (last+1)) (Zg (Qe last) v))))
end Go.Po
namespace Go.Proofs.YtkdpmdfcdgphlaaGreat
open Tryz
open Go.RowKit Go.Mem Go.Po
theorem Qad{A O b c Od' Ol':Nat->Prop}{w w':World}{a f m:Nat}{F:Int}{G:Vw}{C:Nat}{z:List (List UInt8)}{s:St}{T:TypeId}{t:Option Addr}{o:Nat}{y:Option Addr}{q:Nat}{r:Option Addr}{n:Nat}{x:Option Addr}{p:Nat}{v:Option Addr}{sN:Nat}
 (B:w.heap[a]?=some (.cells #[.pointer (some ⟨f,0,none⟩),.pointer (some ⟨m,0,none⟩),.int .i64 s.broker,.int .i64 s.nextId,.int .i64 s.nextSeq,.int .i64 s.tx,.slice t s.ms.length o,.slice y s.waits.length q,.slice r s.ends.length n,.slice x s.opens.length p,.slice v s.noes.length sN,.bool false] T (0,0))) (I:StR A w s t o y q r n x p v sN) (D:¬b a) (E:¬c a) (d:∀k,O k↔k=a\/b k\/c k) (i:A a) (g:∀k,b k\/c k->A k)
 (H:Lg (λk=>A k\/Od' k\/Ol' k) Od' Ol' w' m f F G C z) (j:Kept (λk=>b k\/c k) w w') (l:∀k,Od' k\/Ol' k->b k\/c k\/w.heap.size<=k):
 ∃e,KAt (λk=>A k\/e k) e w' a f F G C z s/\Kept O w w'/\∀k,e k->O k\/w.heap.size<=k:=by
 have K:=Qb B;have e:¬(Od' a\/Ol' a):=λh=>by
  rcases l a h with h|h|h
  ·exact D h
  ·exact E h
  ·omega
 refine⟨λk=>k=a\/Od' k\/Ol' k,⟨⟨m,Od',Ol',T,t,o,y,q,r,n,x,p,v,sN,j.heap (λh=>h.elim D E) B,H.mono (λk _ h=>?_) (λk h=>.inr (.inr h)),I.keep j g λk J h=>?_,λh=>e (.inl h),λh=>e (.inr h),λk=>Iff.rfl⟩,.inl i⟩,j.mono λk _ h=>(d k).2 (.inr h),λk h=>?_⟩
 ·rcases h with h|h|h
  ·exact .inl h
  ·exact .inl (h▸i)
  ·exact .inr h
 ·rcases h with h|h|h
  ·exact h
  ·exact h▸i
  ·rcases l k h with h|h|h
   ·exact g k (.inl h)
   ·exact g k (.inr h)
   ·omega
 ·rcases h with h|h
  ·exact .inl ((d k).2 (.inl h))
  ·rcases l k h with h|h|h
   ·exact .inl ((d k).2 (.inr (.inl h)))
   ·exact .inl ((d k).2 (.inr (.inr h)))
   ·exact .inr h
theorem Qzx{A O:Nat->Prop}{w:World}{q i b:Nat}{j:Int}{v:Vw}{last:Nat}{all:List (List UInt8)}{s:St}(h:KAt A O w q i j v last all s)(l:∀k,A k->k<w.heap.size)(y:w.cell? ⟨b,0,none⟩=some (.pointer (some ⟨q,0,none⟩)))(af:last<=1000)(ok:May s)(f:(used v:Int)+(laidB s last).length<=j)(B:v.length<100000):
 Calls prog 300 (#[]++#[.pointer (some ⟨b,0,none⟩)]) w λe w'=>e=.returned (.int .i64 0)/\∃a,KAt (λk=>A k\/a k) a w' q i j (Xi Zr (laidB s last) v) last all s/\Kept O w w'/\∀k,a k->O k\/w.heap.size<=k:=by
 obtain⟨⟨U,z,o,T,aa,W,ad,Y,Z,V,ac,X,ab,sN,p,C,F,G,H,E⟩,m⟩:=h;obtain⟨L,c⟩:=Zx (laidB s last);obtain⟨n,D⟩:=Zx L.length;rw[<-c]at f ⊢;obtain⟨M,t,g,a,x,Q,R,N,I,r,J,S⟩:=U2 c D p C F G H E m l y ok;obtain⟨P,K⟩:=Zh2 f B;clear p C F G H E m l y ok f B c D;show Calls prog 300 #[.pointer (some ⟨b,0,none⟩)] w _;go_enter func300,ntmps300;go_upto_region 1 with (fail);refine Zp [14,15] 16 (by kernel_rfl) rfl (by kernel_rfl) (λ_ d _ _ _ h=>by cases d<;>exact h) ?_;intro B f l;have c:=Zh f;have c0:=Up.cell (c.cell J);have c1:=Up.cell (cell_of_block (c.heap g) 0 _ rfl);have c2:=Up.cell (cell_of_block (c.heap g) 1 _ rfl);obtain⟨p,y,C,D,E,F,G,H,m⟩:=kUp (c.heap g.o);clear f l;refine Xt 4 [0,1,2,3,4,5,6,7,8,9,10,11] (by kernel_rfl) rfl ?_;simp only[Za,List.getElem?_cons_zero,List.getElem?_cons_succ];repeat(go_big_quiet_step(fail))
 refine wpQuiet_nil ?_;clear p y C D E F G H m c0 c1 c2;refine Qq 3 12 (by kernel_rfl) rfl ?_;go_wp2_with fail;refine(Qay A o B U i last all (a.bel c).l).zS ?_;go_wp2_with fail;refine Zl (Bel.refl _) ?_;refine Qq 2 13 (by kernel_rfl) rfl ?_;have f:=Qux s aa W ad Y Z V ac X ab sN last (by omega) A B (λk h=>Nat.lt_of_lt_of_le (r.o k h) c.size) (x.bel c.o) S.o;rw[<-M.o,<-t.o]at f;have F:=Zh f;clear f;go_wp2_with fail;refine F.mono ?_;rintro e H ⟨⟨ao,cap,rfl,p⟩,f⟩;have m:=G5 A z H (λk h=>Nat.lt_of_lt_of_le (r.o k h) (Nat.le_trans c.size f.size)) i j v ((a.d.bel c.o).bel f) Zr rfl (by show 4<=maxLen;simp[maxLen]) ao cap L p P.o K.o;rw[<-t.o]at m;obtain⟨E,C,l⟩:=Zh3 m f (c.trans f);clear p f m;go_wp2_with fail;refine Zl C ?_;refine Qq 1 14 (by kernel_rfl) rfl ?_;go_wp2_with fail;refine E.mono ?_;rintro e ai ⟨rfl,Od',f,k3,p⟩;obtain⟨D,y,m⟩:=Zh3 f k3 p;clear f k3 p;go_wp2_with fail;refine Z6 ?_;refine Qq 0 15 (by kernel_rfl) rfl ?_;go_wp2_with fail;refine Z6 ?_;refine X0 (by kernel_rfl) ?_;go_wp2;go_ret;have G:∀k,z k\/o k->A k:=λk h=>h.elim (a.d.oa k) (a.l.oa k)
 have ah:=l.size;refine⟨rfl,Qad (Od':=Od') (Ol':=o) g x Q R N I G ⟨D.mono (λk _ h=>?_) λk h=>.inr (.inl h),(a.l.bel l).keep y (λk p f=>a.apart k f p) a.d.oa (λk ae h=>?_) λk h=>.inr (.inr h),λk p f=>?_⟩ ((l.kept _).trans (y.mono λk _ h=>.inl h)) λk h=>?_⟩
 ·rcases h with h|h|h
  ·exact .inl h
  ·exact .inr h
  ·exact .inl (a.l.oa k h)
 ·rcases h with h|h|h
  ·exact h
  ·exact(m.o k h).elim (a.d.oa k) λh=>by omega
  ·exact a.l.oa k h
 ·rcases m.o k p with h|h
  ·exact a.apart k h f
  ·have:=a.l.lt k f;omega
 ·rcases h with h|h
  ·exact(m.o k h).elim .inl λh=>.inr (.inr (by omega))
  ·exact .inr (.inl h)
theorem Qwe:(∀⦃A O:Nat->Prop⦄ ⦃w:World⦄ ⦃c a b:Nat⦄ ⦃d:Int⦄ ⦃v:Vw⦄ ⦃last:Nat⦄ ⦃all:List (List UInt8)⦄ ⦃s:St⦄ (h:KAt A O w c a d v last all s) (m:w.cell? ⟨b,0,none⟩=some (.pointer (some ⟨c,0,none⟩))) (i:(Qg Zr v).isSome=true),Calls prog 303 (#[]++#[.pointer (some ⟨b,0,none⟩)]) w λe w'=>e=.returned (.int .i64 0)/\∃g,KAt (λk=>A k\/g k) g w' c a d (Zg Zr v) last all s/\Kept O w w'/\∀k,g k->O k\/w.heap.size<=k) ∧
 (∀⦃A O:Nat->Prop⦄ ⦃w:World⦄ ⦃c a b:Nat⦄ ⦃d:Int⦄ ⦃v:Vw⦄ ⦃last:Nat⦄ ⦃all:List (List UInt8)⦄ ⦃s:St⦄ (h:KAt A O w c a d v last all s) (m:w.cell? ⟨b,0,none⟩=some (.pointer (some ⟨c,0,none⟩))) (f:File) (i:Qg Zr v=some f),Calls prog 304 (#[]++#[.pointer (some ⟨b,0,none⟩)]) w λe w'=>e=.returned (.int .i64 0)/\∃g,KAt (λk=>A k\/g k) g w' c a d (moved Zr Xd (marked f) v) last all s/\Kept O w w'/\∀k,g k->O k\/w.heap.size<=k):=by
 refine⟨have k1:=trivial;?_,have k2:=trivial;?_⟩;all_goals
  first|(have k2:=k2;intro A O w c a b d v last all s h m f i)|(intro A O w c a b d v last all s h m i)
  obtain⟨⟨F,j,o,T,L,H,P,J,K,G,N,I,M,sN,l,p,r,t,x,q⟩,n⟩:=h;obtain⟨z,g,C,D,E,B,y⟩:=Zh7 l p r t x q n;have c1:=cell_of_block l 0 _ rfl;clear l p r t x q n;first
   | (have k2:=k2)
   | (have l:=Qck A j w a d v g.d Zr (by show 4<=maxLen;simp[maxLen])
      rw[if_pos i]at l)
  first|(have k2:=k2;have n:=Zh (Qbd A j w a d v g.d Zr Xd (by show 4<=maxLen;simp[maxLen]) (by show 5<=maxLen;simp[maxLen]) rfl Qp0.symm f i))|(have n:=Zh l)
  first|(have k2:=k2;clear i)|(clear l i)
  first|(have k2:=k2;show Calls prog 304 #[.pointer (some ⟨b,0,none⟩)] w _)|(show Calls prog 303 #[.pointer (some ⟨b,0,none⟩)] w _)
  first|(have k2:=k2;go_enter func304,ntmps304)|(go_enter func303,ntmps303)
  go_wp2_with fail;refine n.mono ?_;rintro e t ⟨rfl,i,k3⟩;obtain⟨p,l⟩:=Zh2 i k3;clear i k3;go_wp2;go_ret;have i:∀k,j k\/o k->A k:=λk h=>h.elim (g.d.oa k) (g.l.oa k)
  exact⟨rfl,Qad (Od':=j) (Ol':=o) z C D E B y i ⟨p.mono (λk _ h=>h.elim id (i k)) λk h=>.inr (.inl h),g.l.keep l (λk q r=>g.apart k r q) g.d.oa (λk q h=>h.elim id (i k)) λk h=>.inr (.inr h),g.apart⟩ (l.mono λk _ h=>.inl h) λk h=>h.elim .inl λh=>.inr (.inl h)⟩
def Qzy:=Qwe.1
def Qzz:=Qwe.2
theorem Qz0{A O:Nat->Prop}{w:World}{j i b:Nat}{l:Int}{v:Vw}{last:Nat}{all:List (List UInt8)}{s:St}(h:KAt A O w j i l v last all s)(n:w.cell? ⟨b,0,none⟩=some (.pointer (some ⟨j,0,none⟩)))(F:last<=1000):
 Calls prog 305 (#[]++#[.pointer (some ⟨b,0,none⟩)]) w λe w'=>e=.returned (.int .i64 0)/\∃a,KAt (λk=>A k\/a k) a w' j i l (Wt last v) last all s/\Kept O w w'/\∀k,a k->O k\/w.heap.size<=k:=by
 obtain⟨⟨r,f,g,T,L,H,P,J,K,G,N,I,M,sN,a,o,q,t,x,p⟩,m⟩:=h;obtain⟨z,c,C,D,E,B,y⟩:=Zh7 a o q t x p m;have c1:=cell_of_block a 1 _ rfl;clear a o q t x p m;obtain⟨q,o⟩:=Zh2 n c1;clear n c1;show Calls prog 305 #[.pointer (some ⟨b,0,none⟩)] w _;go_enter func305,ntmps305;go_upto_region 1 with (fail);refine Zp [9,10] 11 (by kernel_rfl) rfl (by kernel_rfl) (λ_ d _ _ _ h=>by cases d<;>exact h) ?_;intro n m p;have a:=Zh m;have c0:=Up.cell (a.cell q);have c2:=Up.cell (a.cell o);clear m p;refine Xt 3 [0,1,2,3,4,5,6,7] (by kernel_rfl) rfl ?_;simp only[Za,List.getElem?_cons_zero,List.getElem?_cons_succ];repeat(go_big_quiet_step(fail))
 refine wpQuiet_nil ?_;clear c0 c2;refine Qq 2 8 (by kernel_rfl) rfl ?_;go_wp2_with fail;refine(Qay A g n r i last all (c.bel a).l).zS ?_;go_wp2_with fail;refine Zl (Bel.refl _) ?_;refine Qq 1 9 (by kernel_rfl) rfl ?_;go_wp2_with fail;refine(Qil A f g n r i l v last all (c.bel a) last F).mono ?_;rintro e x ⟨rfl,m,k3⟩;obtain⟨p,t⟩:=Zh2 m ((a.kept f).trans k3);clear m k3;go_wp2_with fail;refine Z6 ?_;refine Qq 0 10 (by kernel_rfl) rfl ?_;go_wp2_with fail;refine Z6 ?_;refine X0 (by kernel_rfl) ?_;go_wp2;go_ret;have m:∀k,f k\/g k->A k:=λk h=>h.elim (c.d.oa k) (c.l.oa k)
 exact⟨rfl,Qad (Od':=f) (Ol':=g) z C D E B y m (p.mono (λk _ h=>h.elim id (m k)) λk h=>.inr h) (t.mono λk _ h=>.inl h) λk h=>h.elim .inl λh=>.inr (.inl h)⟩
theorem Qz1{A O:Nat->Prop}{w:World}{f d g:Nat}{i:Int}{v:Vw}{last:Nat}{all:List (List UInt8)}{s:St}(h:KAt A O w f d i v last all s)(p:w.cell? ⟨f,1,none⟩=some (.pointer (some ⟨g,0,none⟩)))(q:last<999):
 Calls prog 235 #[.pointer (some ⟨g,0,none⟩)] w λe w'=>e=.returned (.int .i64 0)/\∃a,KAt (λk=>A k\/a k) a w' f d i (Zg (Qe last) v) (last+1) all s/\Kept O w w'/\∀k,a k->O k\/w.heap.size<=k:=by
 obtain⟨⟨m,b,c,T,F,B,I,D,E,z,H,C,G,sN,j,a,t,x,y,r⟩,o⟩:=h;have c1:=cell_of_block j 1 _ rfl;have n:m=g:=by rw[p]at c1;simpa using c1.symm
 subst n;refine(Qdd A b c w m d i v last all a q).mono ?_;rintro e w' ⟨rfl,l1,k1⟩;have l:∀k,b k\/c k->A k:=λk h=>h.elim (a.d.oa k) (a.l.oa k)
 exact⟨rfl,Qad (Od':=b) (Ol':=c) j t x y r o l (l1.mono (λk _ h=>h.elim id (l k)) λk h=>.inr h) (k1.mono λk _ h=>h.elim .inl λh=>.inr (h▸a.l.ol)) λk h=>h.elim .inl λh=>.inr (.inl h)⟩
theorem Bn(k:ByteArray)(v:Vw):used (Zg k v)=used v:=Ht (p:=synced) (λ_=>rfl) v
theorem Dm(k:ByteArray)(v:Vw):(Zg k v).length=v.length:=by simp[Zg,X6]
structure Qbz(A O:Nat->Prop)(W:World)(kb db:Nat)(room:Int)(v:Vw)(last:Nat)(all:List (List UInt8))(s:St)(b k:Nat)(w:World):Prop where
 ex:∃O',KAt (λk=>A k\/O' k) O' w kb db room (Gm v last s k) (if k=0 then last else last+1) all s/\(∀q,O' q->O q\/W.heap.size<=q)
 kept:Kept O W w
 cell:w.cell? ⟨b,0,none⟩=some (.pointer (some ⟨kb,0,none⟩))
 nb:¬O b/\¬A b/\b<W.heap.size
 oa:∀q,O q->A q
 al:∀q,A q->q<W.heap.size
theorem Qbz.step{A O a c:Nat->Prop}{W:World}{g e:Nat}{i:Int}{v:Vw}{last:Nat}{all:List (List UInt8)}{s:St}{b k:Nat}{w w':World}(h:Qbz A O W g e i v last all s b k w)(f:∀q,a q->O q\/W.heap.size<=q)
 (m:KAt (λk=>(A k\/a k)\/c k) c w' g e i (Gm v last s (k+1)) (last+1) all s) (j:Kept a w w') (n:∀q,c q->a q\/w.heap.size<=q):Qbz A O W g e i v last all s b (k+1) w':=by
 refine⟨⟨c,m.mono (λq _ h=>h.elim (λh=>.inl (.inl h)) .inr) λq h=>.inr h,λq d=>(n q d).elim (f q) λd=>.inr (Nat.le_trans h.kept.size d)⟩,h.kept.trans' j f,j.cell (λl=>?_) h.cell,h.nb,h.oa,h.al⟩;rcases f b l with d|d
 ·exact h.nb.1 d
 ·have:=h.nb.2.2;omega
theorem Qbz.up{A O:Nat->Prop}{W:World}{d c:Nat}{e:Int}{v:Vw}{last:Nat}{all:List (List UInt8)}{s:St}{b k:Nat}{w w':World}(h:Qbz A O W d c e v last all s b k w)(a:Bel w w'):Qbz A O W d c e v last all s b k w':=by
 obtain⟨f,g,i⟩:=h.ex;exact⟨⟨f,g.bel a,i⟩,h.kept.trans (a.kept _),a.cell h.cell,h.nb,h.oa,h.al⟩
theorem Qlk{A O:Nat->Prop}{w:World}{f t:Nat}{y:Int}{v:Vw}{last:Nat}{all:List (List UInt8)}{s:St}(h:KAt A O w f t y v last all s)(j:∀k,A k->k<w.heap.size)(ae:last<999)(ok:May s)(o:(used v:Int)+(laidB s (last+1)).length<=y)(l:v.length<100000)(m:Qg Zr v=none):
 Calls prog 214 #[.pointer (some ⟨f,0,none⟩)] w λe w'=>e=.returned (.int .i64 0)/\∃g,KAt (λk=>A k\/g k) g w' f t y (Gm v last s 5) (last+1) all s/\Kept O w w'/\∀k,g k->O k\/w.heap.size<=k:=by
 obtain⟨n,g⟩:=Zx (w.alloc (.cells #[.pointer (some ⟨f,0,none⟩)] 23));obtain⟨b,x⟩:=Zx w.heap.size;have i:=Zb g;have c1:n.cell? ⟨b,0,none⟩=some (.pointer (some ⟨f,0,none⟩)):=by
  rw[g,x];exact cell_of_block (heap_alloc_new _ _) 0 _ rfl
 have p:n.heap.size=w.heap.size+1:=by rw[g];simp
 obtain⟨J,H,K,L,Q,I,X,S,aa,W,U,N⟩:=U2 (h.bel i) h.oa (show ∀k,A k->k<n.heap.size fromλk h=>by have:=j k h;omega) (show ¬A b fromλh=>by have:=j b h;omega) i c1 p x ok o l m;have Y:=Zh g;have ac:=Zd c1;clear h j i c1 p ok o l m g;go_enter func214,ntmps214;go_wp2_with fail;rw[<-S.o,<-Y.o];clear x;refine(Cj J).zS ?_;obtain⟨m,E,F,o⟩:∃m,n.cell? ⟨f,0,none⟩=some (.pointer (some ⟨t,0,none⟩))/\n.cell? ⟨f,1,none⟩=some (.pointer (some ⟨m,0,none⟩))/\Calls prog 97 #[.pointer (some ⟨t,0,none⟩),.string Zr] n λe w'=>(∃c,e=.returned (.int .i64 c))/\KAt A O w' f t y v last all s/\Kept O n w'/\w'.cell? ⟨f,1,none⟩=some (.pointer (some ⟨m,0,none⟩)):=by
  obtain⟨⟨m,j,r,T,ad,R,ai,Z,ab,P,ah,V,af,sN,x,g,G,i,M,p⟩,C⟩:=J.o;refine⟨m,cell_of_block x 0 _ rfl,cell_of_block x 1 _ rfl,?_⟩;have l:=Gz A j n t y v g.d Zr (by show 4<=maxLen;simp[maxLen]);rw[Ym N.o]at l;refine l.mono ?_;rintro e w' ⟨D,d,k⟩;exact⟨D,⟨⟨m,j,r,T,ad,R,ai,Z,ab,P,ah,V,af,sN,k.heap i x,⟨d,g.l.keep k (λk z B=>g.apart k B z) g.d.oa (λ_ _ h=>h) g.l.oa,g.apart⟩,G.keep k g.d.oa λ_ _ h=>h,i,M,p⟩,C⟩,k.mono λk _ h=>(p k).2 (.inr (.inl h)),k.cell i (cell_of_block x 1 _ rfl)⟩
 have c1:=I.o;go_wp2_with fail;refine o.mono ?_;rintro e af ⟨⟨c,rfl⟩,k3,j,l⟩;have g:¬O b:=λh=>L.o (H.o b h)
 have P:=Zh (show Qbz A O n f t y v last all s b 0 af from⟨⟨O,k3.mono (λk _ h=>h.elim id (H k)) λk h=>.inr h,λq h=>.inl h⟩,j,j.cell g I,⟨g,L,ac⟩,H,K⟩);have c3:=P.cell;have V:=Zh l;clear k3 j o g E F c1;go_wp2_with fail;clear l c3;go_loopw[4,5,23] (λ_ _ a wr=>∃k:Nat,k<=5/\a=.int .i64 k/\Hid (Qbz A O n f t y v last all s b k wr)/\Hid (k=0->wr.cell? ⟨f,1,none⟩=some (.pointer (some ⟨m,0,none⟩)))) (λ_ _ a _=>5-(intOf a).toNat)
 case atStart=>exact⟨0,by omega,rfl,P,Zh λ_=>V.o⟩
 case round=>
  obtain⟨k,ah,rfl,E,ab⟩:=hrel;have ad:k=0\/k=1\/k=2\/k=3\/k=4\/k=5:=by omega
  have g:=E.up ((Bel.refl wr).drew);have z:=Zh g;obtain⟨Z,j,i⟩:=g.ex;obtain⟨B,C⟩:=Zh2 j i;have c0:=E.cell;have R:=Zh (show ∀q,A q\/Z q->q<wr.drew.heap.size fromλq h=>h.elim (λh=>Nat.lt_of_lt_of_le (K q h) g.kept.size) (j.lt q));have l:Qg Zr (Xi Zr (laidB s (last+1)) (Zg (Qe last) v))=some ⟨laidB s (last+1),0,false⟩:=by
   rw[Qd9,Zg,X3 (Bd _),N.o];rfl
  have M:=Zh l;clear j i g l;rcases ad with rfl|rfl|rfl|rfl|rfl|rfl
  ·have o:=Zh (Qz1 B (ab rfl) ae)
   have p:∀w,(Instr.index 344 (.agg #[.func (.func 235) #[.pointer (some ⟨m,0,none⟩)] #[],.func (.func 300) #[] #[.pointer (some ⟨b,0,none⟩)],.func (.func 303) #[] #[.pointer (some ⟨b,0,none⟩)],.func (.func 304) #[] #[.pointer (some ⟨b,0,none⟩)],.func (.func 305) #[] #[.pointer (some ⟨b,0,none⟩)]]) (.int .i64 0)).run prog w=.ok (.func (.func 235) #[.pointer (some ⟨m,0,none⟩)] #[]) w:=λw=>rfl
   go_upto_region 7 with (fail);clear p;go_region_held3 (λw'=>w'.cell? ⟨b,0,none⟩=some (.pointer (some ⟨f,0,none⟩)))
    (first|go_keep|exact r)
    ((first
      | (go_at_call 235;go_must (refine(o.o).mono ?_);rintro e F ⟨rfl,D,i,j,l⟩;have g:=Zh (z.step C.o i j l);have r:=g.cell;clear i j l)
      | (go_at_call 144;refine(V9 f _).mono ?_;rintro e G ⟨rfl,rfl⟩)))
   go_wp2;go_roundw
   case rel=>exact⟨1,by omega,by rfl,g,Zh λh=>by omega⟩
   case measure=>simp[intOf]
  ·have o:=Zh (Qzx B.o R.o (((Bel.refl wr).drew).cell c0) (by show last+1<=1000;omega) aa.o (by show(used (Zg (Qe last) v):Int)+_<=y;rw[Bn];exact W.o) (by show(Zg (Qe last) v).length<100000;rw[Dm];exact U.o))
   have p:∀w,(Instr.index 344 (.agg #[.func (.func 235) #[.pointer (some ⟨m,0,none⟩)] #[],.func (.func 300) #[] #[.pointer (some ⟨b,0,none⟩)],.func (.func 303) #[] #[.pointer (some ⟨b,0,none⟩)],.func (.func 304) #[] #[.pointer (some ⟨b,0,none⟩)],.func (.func 305) #[] #[.pointer (some ⟨b,0,none⟩)]]) (.int .i64 1)).run prog w=.ok (.func (.func 300) #[] #[.pointer (some ⟨b,0,none⟩)]) w:=λw=>rfl
   go_upto_region 7 with (fail);clear p;go_region_held3 (λw'=>w'.cell? ⟨b,0,none⟩=some (.pointer (some ⟨f,0,none⟩)))
    (first|go_keep|exact r)
    ((first
      | (go_at_call 300;go_must (refine(o.o).mono ?_);rintro e F ⟨rfl,D,i,j,l⟩;have g:=Zh (z.step C.o i j l);have r:=g.cell;clear i j l)
      | (go_at_call 144;refine(V9 f _).mono ?_;rintro e G ⟨rfl,rfl⟩)))
   go_wp2;go_roundw
   case rel=>exact⟨2,by omega,by rfl,g,Zh λh=>by omega⟩
   case measure=>simp[intOf]
  ·have o:=Zh (Qzy B.o (((Bel.refl wr).drew).cell c0) (by show(Qg Zr (Xi Zr (laidB s (last+1)) (Zg (Qe last) v))).isSome=true;rw[M.o];rfl))
   have p:∀w,(Instr.index 344 (.agg #[.func (.func 235) #[.pointer (some ⟨m,0,none⟩)] #[],.func (.func 300) #[] #[.pointer (some ⟨b,0,none⟩)],.func (.func 303) #[] #[.pointer (some ⟨b,0,none⟩)],.func (.func 304) #[] #[.pointer (some ⟨b,0,none⟩)],.func (.func 305) #[] #[.pointer (some ⟨b,0,none⟩)]]) (.int .i64 2)).run prog w=.ok (.func (.func 303) #[] #[.pointer (some ⟨b,0,none⟩)]) w:=λw=>rfl
   go_upto_region 7 with (fail);clear p;go_region_held3 (λw'=>w'.cell? ⟨b,0,none⟩=some (.pointer (some ⟨f,0,none⟩)))
    (first|go_keep|exact r)
    ((first
      | (go_at_call 303;go_must (refine(o.o).mono ?_);rintro e F ⟨rfl,D,i,j,l⟩;have g:=Zh (z.step C.o i j l);have r:=g.cell;clear i j l)
      | (go_at_call 144;refine(V9 f _).mono ?_;rintro e G ⟨rfl,rfl⟩)))
   go_wp2;go_roundw
   case rel=>exact⟨3,by omega,by rfl,g,Zh λh=>by omega⟩
   case measure=>simp[intOf]
  ·have o:=Zh (Qzz B.o (((Bel.refl wr).drew).cell c0) ⟨laidB s (last+1),(laidB s (last+1)).length,true⟩ (by show Qg Zr (Zg Zr (Xi Zr (laidB s (last+1)) (Zg (Qe last) v)))=_;rw[Zg,Nb,M.o];rfl))
   have p:∀w,(Instr.index 344 (.agg #[.func (.func 235) #[.pointer (some ⟨m,0,none⟩)] #[],.func (.func 300) #[] #[.pointer (some ⟨b,0,none⟩)],.func (.func 303) #[] #[.pointer (some ⟨b,0,none⟩)],.func (.func 304) #[] #[.pointer (some ⟨b,0,none⟩)],.func (.func 305) #[] #[.pointer (some ⟨b,0,none⟩)]]) (.int .i64 3)).run prog w=.ok (.func (.func 304) #[] #[.pointer (some ⟨b,0,none⟩)]) w:=λw=>rfl
   go_upto_region 7 with (fail);clear p;go_region_held3 (λw'=>w'.cell? ⟨b,0,none⟩=some (.pointer (some ⟨f,0,none⟩)))
    (first|go_keep|exact r)
    ((first
      | (go_at_call 304;go_must (refine(o.o).mono ?_);rintro e F ⟨rfl,D,i,j,l⟩;have g:=Zh (z.step C.o i j l);have r:=g.cell;clear i j l)
      | (go_at_call 144;refine(V9 f _).mono ?_;rintro e G ⟨rfl,rfl⟩)))
   go_wp2;go_roundw
   case rel=>exact⟨4,by omega,by rfl,g,Zh λh=>by omega⟩
   case measure=>simp[intOf]
  ·have o:=Zh (Qz0 B.o (((Bel.refl wr).drew).cell c0) (by show last+1<=1000;omega))
   have p:∀w,(Instr.index 344 (.agg #[.func (.func 235) #[.pointer (some ⟨m,0,none⟩)] #[],.func (.func 300) #[] #[.pointer (some ⟨b,0,none⟩)],.func (.func 303) #[] #[.pointer (some ⟨b,0,none⟩)],.func (.func 304) #[] #[.pointer (some ⟨b,0,none⟩)],.func (.func 305) #[] #[.pointer (some ⟨b,0,none⟩)]]) (.int .i64 4)).run prog w=.ok (.func (.func 305) #[] #[.pointer (some ⟨b,0,none⟩)]) w:=λw=>rfl
   go_upto_region 7 with (fail);clear p;go_region_held3 (λw'=>w'.cell? ⟨b,0,none⟩=some (.pointer (some ⟨f,0,none⟩)))
    (first|go_keep|exact r)
    ((first
      | (go_at_call 305;go_must (refine(o.o).mono ?_);rintro e F ⟨rfl,D,i,j,l⟩;have g:=Zh (z.step C.o i j l);have r:=g.cell;clear i j l)
      | (go_at_call 144;refine(V9 f _).mono ?_;rintro e G ⟨rfl,rfl⟩)))
   go_wp2;go_roundw
   case rel=>exact⟨5,by omega,by rfl,g,Zh λh=>by omega⟩
   case measure=>simp[intOf]
  ·obtain⟨o,g,i⟩:=E.ex
   obtain⟨j,l⟩:=Zh2 g i;clear g i;go_wp2;go_ret;exact⟨rfl,o,j.o,(Q.kept O).trans E.kept,λk h=>(l.o k h).imp id λh=>by have:=X.o;omega⟩
end Go.Proofs.YtkdpmdfcdgphlaaGreat

/- Part of this claim's proof. Conditions: as its theorems say. -/
import Derived.Test.YtkdpmdfcdgphlaaGreatM10
set_option linter.all false
set_option maxHeartbeats 20000000
set_option maxRecDepth 100000
namespace Go.Proofs.YtkdpmdfcdgphlaaGreat
open Tryz
open Go.RowKit Go.Mem Go.Po Go.Lib
inductive InK|b|p|e|s
namespace InK
def α:InK->Type|b=>Branch|p=>Qv|e=>Fin|s=>Sm
def r:(k:InK)->Rp k.α|b=>Zm|p=>Z4|e=>J7|s=>L8
def E:InK->Nat|b=>58|p=>134|e=>51|s=>444
def S:InK->Nat|b=>39|p=>41|e=>40|s=>435
def F:InK->Nat|b=>285|p=>343|e=>338|s=>432
def O:InK->Nat|b=>341|p=>399|e=>396|s=>457
def B:InK->Nat|e=>16|s=>24|_=>32
theorem el:∀k:InK,El prog k.S k.E 2 k.B|b=>Qa8|p=>Qgi|e=>Qjj|s=>Qi1
theorem sz(k:InK)(w:World):(sizeOf k.E).run prog w=.ok 2 w:=by
 obtain⟨c,g,a,d,b,e,f⟩:=k.el.hi;simp[sizeOf,typeInfo,a,b]
theorem ov(k:InK)(w:World)(b g o d c:Nat){x y:Array Value}(h:g≠b)(a:w.heap[b]?=some (.cells x k.E (0,0)))(f:w.heap[g]?=some (.cells y k.E (0,0)))(i:2<=x.size)(j:o+2<=y.size):(callFunc k.O #[.slice (some ⟨b,0,none⟩) 1 1,.slice (some ⟨g,o,none⟩) d c]).run prog w=.ok (.value (.bool false)) w:=by
 have:=k.sz;cases k;all_goals
  dsimp only[InK.O,InK.E,InK.S]at *;first
   | rw[run_callFunc_extern func341 (by kernel_rfl) (by kernel_rfl) (by kernel_rfl) (e:=Extern.SlicesOverlaps.overlaps #[39,39] #[4]) (by kernel_rfl),Lib.run_overlaps_apart w 39 4 58 underlying39 2 this ⟨b,0,none⟩ ⟨g,o,none⟩ 1 1 d c (λe=>h e.symm) 58 58 x.size y.size (by simp[World.shape?,a,InK.E]) (by simp[World.shape?,f,InK.E]) (by omega) (by simp[World.frozen?,a]) (by simp[World.frozen?,a])];rfl
   | rw[run_callFunc_extern func399 (by kernel_rfl) (by kernel_rfl) (by kernel_rfl) (e:=Extern.SlicesOverlaps.overlaps #[41,41] #[4]) (by kernel_rfl),Lib.run_overlaps_apart w 41 4 134 underlying41 2 this ⟨b,0,none⟩ ⟨g,o,none⟩ 1 1 d c (λe=>h e.symm) 134 134 x.size y.size (by simp[World.shape?,a,InK.E]) (by simp[World.shape?,f,InK.E]) (by omega) (by simp[World.frozen?,a]) (by simp[World.frozen?,a])];rfl
   | rw[run_callFunc_extern func396 (by kernel_rfl) (by kernel_rfl) (by kernel_rfl) (e:=Extern.SlicesOverlaps.overlaps #[40,40] #[4]) (by kernel_rfl),Lib.run_overlaps_apart w 40 4 51 underlying40 2 this ⟨b,0,none⟩ ⟨g,o,none⟩ 1 1 d c (λe=>h e.symm) 51 51 x.size y.size (by simp[World.shape?,a,InK.E]) (by simp[World.shape?,f,InK.E]) (by omega) (by simp[World.frozen?,a]) (by simp[World.frozen?,a])];rfl
   | rw[run_callFunc_extern func457 (by kernel_rfl) (by kernel_rfl) (by kernel_rfl) (e:=Extern.SlicesOverlaps.overlaps #[435,435] #[4]) (by kernel_rfl),Lib.run_overlaps_apart w 435 4 444 underlying435 2 this ⟨b,0,none⟩ ⟨g,o,none⟩ 1 1 d c (λe=>h e.symm) 444 444 x.size y.size (by simp[World.shape?,a,InK.E]) (by simp[World.shape?,f,InK.E]) (by omega) (by simp[World.frozen?,a]) (by simp[World.frozen?,a])];rfl
end InK
theorem ins(k:InK):∀(A:Nat->Prop) (w0 w:World) (ao:Option Addr) (cap:Nat) (l:List k.α) (h:Own k.r A w0 w k.E ao cap l) (C:Bel w0 w) (aG:l.length<=100000) (i:Nat) (W:i<=l.length) (x:k.α) (p:Nat) (a b:Value)
 (B:k.r.R (λk=>A k\/Qc ao cap k) w x [a,b]) (o:w.heap[p]?=some (.cells #[a,b] k.E (0,0))) (aH:¬Qc ao cap p),
 Calls prog k.F #[.slice ao l.length cap,.int .i64 i,.slice (some ⟨p,0,none⟩) 1 1] w λe w'=>∃r t,e=.returned (.slice r (l.length+1) t)/\Own k.r A w0 w' k.E r t (l.take i++[x]++l.drop i)/\Kept (Qc ao cap) w w'/\Bel w0 w'/\∀k,Qc r t k->Qc ao cap k\/w.heap.size<=k:=by
 obtain⟨O,U⟩:=Zh2 k.el k.el.ht;have q:=k.sz;have H:(prog.info? k.E).map (·.size)=some 2:=by
  obtain⟨av,m,aw,aN,N,aO,ac⟩:=k.el.hi;rw[aw];simpa using N
 have f:prog.elem k.S=k.E:=by simp[Program.elem,k.el.ht]
 have ai:=Zh k.ov;revert O U q H f ai;generalize T:k.E=E;cases k;all_goals
  dsimp only[InK.α,InK.r,InK.S,InK.F,InK.O,InK.B,InK.E]at T ⊢;intro O U q H f ai A w0 w ao cap l h C aG i W x p a b B o aH;obtain⟨xs,D,d,F⟩:=id h;obtain⟨n,y⟩:=Zx l.length;have d:Sl w _ 2 ao l.length cap xs:=d;have aU:=λw=>Vq (P:=prog) _ 2 (by rw[f];exact U.o) (λw=>by rw[f];exact q w) ao n cap i (by omega) w
  have bf:n<=cap:=by rw[y];exact d.2.1
  have aY:cap<=maxLen:=d.2.2.1;simp only[maxLen]at aY;have c0:=cell_of_block o 0 _ rfl;have c1:=cell_of_block o 1 _ rfl;have aj:∀v∈[a,b],v.oneCell'=true:=Rp.one _ B;have a9:∀v∈xs,v.oneCell'=true:=D.all λ_ _ _ h=>Rp.one _ h
  rw[<-y]at W aG d ⊢;obtain⟨s,ah,az,R,ad,I,aP,af⟩:=Zh8 y B D d F C h o;have bk:((1:Int)=0)=False:=eq_false (by omega);have bd:(0:Int)<=(i:Int):=by omega
  have be:(i:Int)<=(n:Int):=by omega
  clear B D d F C h y o;by_cases aV:i=n
  ·have aW:(i:Int)=(n:Int):=by omega
   have y:=Src.ofSlice (P:=prog) w U.o ⟨p,0,none⟩ 1 1 [a,b] (show _=1*2 from rfl) (λj o d=>by
    rcases j with _|_|j
    ·have e:a=o:=by simpa using d
     subst e;simpa[Addr.add] using c0
    ·have e:b=o:=by simpa using d
     subst e;simpa[Addr.add] using c1
    ·simp at d) aj
   have K:=Zh y;subst aV;clear y c0 c1;subst T;first|go_enter func285,ntmps285|go_enter func343,ntmps343|go_enter func338,ntmps338|go_enter func432,ntmps432
   go_wp2_with(at_builtin;go_must (refine Ja (A:=A) (w0:=w0) _ rfl _ _ _ _ rfl O.o ao cap l aP.o (by rw[<-s.o];rfl) _ rfl [x] [a,b] (Ch.one ah.o rfl) K.o (by rw[<-s.o];simp;omega) (by omega) I.o ?_);rw[<-s.o];intro r t ay y C B D;have J:=Zh y;have G:=Zh C;have F:=Zh B;have L:=Zh D;clear y C B D);go_ret;refine⟨r,t,rfl,?_,G.o,F.o,λk h=>(L.o k h).imp id λh=>by omega⟩;rw[s.o,List.take_of_length_le (Nat.le_refl _),List.drop_of_length_le (Nat.le_refl _)];exact(List.append_nil (l++[x])).symm▸J.o
  ·have aW:((i:Int)=(n:Int))=False:=eq_false (by omega)
   have aF:i<n:=by omega
   obtain⟨g,off,S,rfl,aX,F,V,M⟩:=R.2.2.2 (by omega);have bc:off+cap*2<=S.size:=V;have aB:adv (some ⟨g,off,none⟩) cap i 2=some ⟨g,off+i*2,none⟩:=by rw[adv,if_neg (by omega),Option.map_some,Addr.add_lit]
   rw[aB]at aU;have Z:xs.length=n*2:=R.1;have K:(xs.drop (i*2)).length=(n-i)*2:=by rw[List.length_drop,Z,Nat.sub_mul]
   have aE:g≠p:=λe=>aH ⟨by omega,_,rfl,e.symm⟩
   by_cases aI:n+1<=cap
   ·have aZ:((n:Int)+1>(cap:Int))=False:=eq_false (by omega)
    have ar:=λw=>Mo (P:=prog) _ _ 2 U f q (some ⟨g,off,none⟩) n cap (n+1) aI w
    rw[show((n+1:Nat):Int)=(n:Int)+1 by omega]at ar;have am:=λw=>Vq (P:=prog) _ 2 (by rw[f];exact U.o) (λw=>by rw[f];exact q w) (some ⟨g,off,none⟩) (n+1) cap (i+1) (by omega) w
    have an:=λw=>Vq (P:=prog) _ 2 (by rw[f];exact U.o) (λw=>by rw[f];exact q w) (some ⟨g,off,none⟩) (n+1) cap i (by omega) w
    rw[show((i+1:Nat):Int)=(i:Int)+1 by omega,show adv (some ⟨g,off,none⟩) cap (i+1) 2=some ⟨g,off+(i+1)*2,none⟩ by rw[adv,if_neg (by omega),Option.map_some,Addr.add_lit]]at am;rw[aB]at an;have ap:=λt r=>ai.o w p g (off+(i+1)*2) t r aE af.o F (Nat.le_refl _) (by omega)
    have Y:IntKind.i64.wrap ((i:Int)+1)=(i:Int)+1:=by rw[IntKind.wrap_i64];omega
    have au:IntKind.i64.wrap ((n:Int)+1)=(n:Int)+1:=by rw[IntKind.wrap_i64];omega
    obtain⟨Q,ae⟩:=Zh2 F M;clear V c0 c1 F M;subst T;first|go_enter func285,ntmps285|go_enter func343,ntmps343|go_enter func338,ntmps338|go_enter func432,ntmps432
    go_wp2_with(simp only[ap]);refine Cb 8 (by kernel_rfl) (by kernel_rfl) ?_;simp only[List.take_succ_cons,List.take_zero,List.drop_succ_cons,List.drop_zero];repeat(go_big_quiet_step(fail))
    refine Qg9 λB t=>?_
    have y:=t.heap Q;have J:=λsT r=>Gh (P:=prog) B _ sT r _ 2 g (off+(i+1)*2) (n-i) (cap-(i+1)) ⟨g,off+i*2,none⟩ (n+1-i) (cap-i) (xs.drop (i*2)) U.o H (by rw[K,show Nat.min (n+1-i) (n-i)=n-i from Nat.min_eq_right (by omega)]) (λj o d=>by
     rw[List.getElem?_drop]at d;have:=ae.o _ _ d;rw[Addr.add_lit];simp[World.cell?,y,Nat.add_assoc,this]) (λj d=>by
     have C:off+(i+1)*2+j<S.size:=by rw[K]at d;omega
     simp[World.cell?,y,C]) (λj d=>by simp[World.frozen?,y]) (λo aq=>a9 o (List.mem_of_mem_drop aq))
    have D:=Zh t;clear t;have X:=D.heap af;obtain⟨ak,L,ax,-⟩:=Kn g _ (0,0) (xs.drop (i*2)) (off+(i+1)*2) B S (D.heap Q.o) (by rw[K];omega);have G:(B.setCells g (off+(i+1)*2) (xs.drop (i*2))).heap[p]?=B.heap[p]?:=World.heap_setCells_other _ _ _ _ (Qb X) (λe=>aE e.symm);rw[X]at G;obtain⟨ay,aa⟩:=Zx (B.setCells g (off+(i+1)*2) (xs.drop (i*2)));rw[<-aa]at L G J;have al:=λsT r=>Gh (P:=prog) ay _ sT r _ 2 g (off+i*2) (n+1-i) (cap-i) ⟨p,0,none⟩ 1 1 [a,b] U.o H (by rw[show Nat.min 1 (n+1-i)=1 from Nat.min_eq_left (by omega)];rfl) (λj o d=>by
     rcases j with _|_|j
     ·simpa[Addr.add,World.cell?,G] using d
     ·simpa[Addr.add,World.cell?,G] using d
     ·simp at d) (λj d=>by
     have C:off+i*2+j<ak.size:=by simp only[List.length_cons,List.length_nil]at d;omega
     simp[World.cell?,L,C]) (λj d=>by simp[World.frozen?,L]) aj
    have ab:=Zh aa;clear aa L G X;go_wp2_with(at_builtin;first|refine wpList_copy_run _ rfl _ _ _ _ rfl _ _ rfl rfl (J _ _) ?_|refine wpList_copy_run _ rfl _ _ _ _ rfl _ _ rfl rfl (al _ _) ?_);go_ret;have G:=Qrw (vs:=[a,b]) (R.kept (D.kept (λ_=>False)) λ_ _ h=>h) aI (Nat.le_of_lt aF) rfl;rw[<-ab.o]at G;have L:Kept (Qc (some ⟨g,off,none⟩) cap) w (ay.setCells g (off+i*2) [a,b]):=(D.kept _).trans G.2;exact⟨_,_,rfl,Own.inserted az.o ad.o ah.o (by rw[<-s.o];exact W) L I.o (by rw[<-s.o];exact G.1) (λk h=>.inl h),L,I.of_kept L ad.o,λk h=>.inl h⟩
   ·have aZ:(n:Int)+1>(cap:Int):=by omega
    obtain⟨av,m,aw,aN,N,aO,ac⟩:=O.hi;have bg:=λw=>Mo (P:=prog) _ _ 2 U.o f q (some ⟨g,off,none⟩) n cap i (by omega) w
    have aA:Sl w E av.size (some ⟨g,off,none⟩) i cap (xs.take (i*2)):=by
     rw[N];have L:i*2<=n*2:=Nat.mul_le_mul_right _ (by omega);exact⟨by rw[List.length_take,Z];exact Nat.min_eq_left L,by omega,by simp only[maxLen];omega,λ_=>⟨g,off,S,rfl,aX,F,V,λj o d=>M j o (by rw[List.getElem?_take]at d;split at d;exact d;cases d)⟩⟩
    have X:=λr=>Qa2 (P:=prog) w _ 3 r _ av m .i64 U.o underlying3 aw aN (ac.trans N.symm) _ i cap _ aA (n+1-i) (by omega) (by rw[N];decide) (by omega) (by simp only[maxLen];omega) (by rw[aO];omega)
    rw[show((n+1-i:Nat):Int)=(n:Int)+1-(i:Int) by omega,show i+(n+1-i)=n+1 by omega]at X;have ak:=grownCap_ge w (n+1) cap E;have aD:=grownCap_le_maxLen w (n+1) cap E (by simp only[maxLen];omega);obtain⟨c,aC⟩:=Zx (grownCap w (n+1) cap E);rw[<-aC]at X ak aD;obtain⟨bb,aa,aK,aL,aM,ab⟩:=Qxy (k:=2) (vs:=[a,b]) (z:=m.cells) (i:=i) R.o ak (by omega) rfl ac;have L:(w.drew.alloc (.cells ((xs.take (i*2)).toArray++Builtin.zeroCells m.cells (n+1-i)++Builtin.zeroCells m.cells (c-(n+1))) E)).heap[w.heap.size]?=some (.cells ((xs.take (i*2)).toArray++Builtin.zeroCells m.cells (n+1-i)++Builtin.zeroCells m.cells (c-(n+1))) E (0,0)):=heap_alloc_new w.drew _;have ap:((xs.take (i*2)).toArray++Builtin.zeroCells m.cells (n+1-i)++Builtin.zeroCells m.cells (c-(n+1))).size=c*2:=by
     simp only[Array.size_append,List.size_toArray,Pj,List.length_take,Z,ac,Nat.sub_mul];omega
    obtain⟨ax,Y⟩:=Zx (w.drew.alloc (.cells ((xs.take (i*2)).toArray++Builtin.zeroCells m.cells (n+1-i)++Builtin.zeroCells m.cells (c-(n+1))) E));have aT:Bel w ax:=by rw[Y];exact((Bel.refl w).drew).alloc _
    rw[<-Y]at X aa ab L;obtain⟨ba,aJ⟩:=Zx ((xs.take (i*2)).toArray++Builtin.zeroCells m.cells (n+1-i)++Builtin.zeroCells m.cells (c-(n+1)));rw[<-aJ]at L ap;have am:=λw'=>Vq (P:=prog) _ 2 (by rw[f];exact U.o) (λw=>by rw[f];exact q w) (some ⟨w.heap.size,0,none⟩) (n+1) c i (by omega) w'
    rw[show adv (some ⟨w.heap.size,0,none⟩) c i 2=some ⟨w.heap.size,i*2,none⟩ by rw[adv,if_neg (by omega),Option.map_some,Addr.add_lit,Nat.zero_add]]at am;have an:=λw'=>Vq (P:=prog) _ 2 (by rw[f];exact U.o) (λw=>by rw[f];exact q w) (some ⟨w.heap.size,0,none⟩) (n+1) c (i+1) (by omega) w'
    rw[show((i+1:Nat):Int)=(i:Int)+1 by omega,show adv (some ⟨w.heap.size,0,none⟩) c (i+1) 2=some ⟨w.heap.size,(i+1)*2,none⟩ by rw[adv,if_neg (by omega),Option.map_some,Addr.add_lit,Nat.zero_add],show n+1-(i+1)=n-i by omega]at an;have ar:=aT.heap af;have J:=λsT r=>Gh (P:=prog) ax _ sT r _ 2 w.heap.size (i*2) (n+1-i) (c-i) ⟨p,0,none⟩ 1 1 [a,b] U.o H (by rw[show Nat.min 1 (n+1-i)=1 from Nat.min_eq_left (by omega)];rfl) (λj o d=>by
     rcases j with _|_|j
     ·simpa[Addr.add,World.cell?,ar] using d
     ·simpa[Addr.add,World.cell?,ar] using d
     ·simp at d) (λj d=>by
     have C:i*2+j<ba.size:=by rw[ap];simp only[List.length_cons,List.length_nil]at d;omega
     simp[World.cell?,L,C]) (λj d=>by simp[World.frozen?,L]) aj
    obtain⟨bl,au⟩:=Zx (ax.setCells w.heap.size (i*2) [a,b]);rw[<-au]at J aa ab;have bi:IntKind.i64.wrap ((i:Int)+1)=(i:Int)+1:=by rw[IntKind.wrap_i64];omega
    have bj:IntKind.i64.wrap ((n:Int)+1)=(n:Int)+1:=by rw[IntKind.wrap_i64];omega
    have bh:IntKind.i64.wrap ((n:Int)+1-(i:Int))=(n:Int)+1-(i:Int):=by rw[IntKind.wrap_i64];omega
    obtain⟨Q,ae,aQ,aR,aS,a8⟩:=Zh6 F M aa aL aM ab;clear V c0 c1 F M aa aL aM ab ar L ap Y au aA aC aJ;subst T;first|go_enter func285,ntmps285|go_enter func343,ntmps343|go_enter func338,ntmps338|go_enter func432,ntmps432
    go_wp2_with(at_builtin;first|refine Lib.wpList_append_run _ rfl _ _ _ 3 rfl _ _ rfl rfl _ _ (X _) ?_|refine wpList_copy_run _ rfl _ _ _ _ rfl _ _ rfl rfl (J _ _) ?_);refine Cb 8 (by kernel_rfl) (by kernel_rfl) ?_;simp only[List.take_succ_cons,List.take_zero,List.drop_succ_cons,List.drop_zero];repeat(go_big_quiet_step(fail))
    refine Qg9 λB t=>?_
    have y:=t.heap aQ;have F:=(a8.trans t).heap Q;have al:=λsT r=>Gh (P:=prog) B _ sT r _ 2 w.heap.size ((i+1)*2) (n-i) (c-(i+1)) ⟨g,off+i*2,none⟩ (n-i) (cap-i) (xs.drop (i*2)) U.o H (by rw[K,show Nat.min (n-i) (n-i)=n-i from Nat.min_self _]) (λj o d=>by
     rw[List.getElem?_drop]at d;have:=ae.o _ _ d;rw[Addr.add_lit];simp[World.cell?,F,Nat.add_assoc,this]) (λj d=>by
     have C:(i+1)*2+j<bb.size:=by rw[K]at d;rw[aK];omega
     simp[World.cell?,y,C]) (λj d=>by simp[World.frozen?,y]) (λo aq=>a9 o (List.mem_of_mem_drop aq))
    obtain⟨D,r⟩:=Zh2 (a8.trans t) y;clear t y F;go_wp2_with(at_builtin;refine wpList_copy_run _ rfl _ _ _ _ rfl _ _ rfl rfl (al _ _) ?_);go_wp2;go_ret;have G:=Qxz (k:=2) (vs:=[a,b]) Z ak aD (Nat.le_of_lt aF) rfl r aK aR aS;have d:Bel w (B.setCells w.heap.size ((i+1)*2) (xs.drop (i*2))):=D.of_kept G.2 λk h=>by omega
    have o:∀k,Qc (some ⟨w.heap.size,0,none⟩) c k->Qc (some ⟨g,off,none⟩) cap k\/w.heap.size<=k:=λk ⟨_,a,t,y⟩=>by cases t;rw[y];exact .inr (Nat.le_refl _)
    exact⟨_,_,rfl,Own.inserted az.o ad.o ah.o (by rw[<-s.o];exact W) (d.kept _) I.o (by rw[<-s.o];exact G.1) o,d.kept _,I.trans d,o⟩
theorem Lb(A:Nat->Prop)(w0 w:World)(ao:Option Addr)(cap:Nat)(l:List Fin)(h:Own J7 A w0 w 51 ao cap l)(g:Bel w0 w)(m:l.length<=100000)(i:Nat)(j:i<=l.length)(x:Fin)(c:Nat)(a b:Value)
 (p:J7.R (λk=>A k\/Qc ao cap k) w x [a,b]) (o:w.heap[c]?=some (.cells #[a,b] 51 (0,0))) (n:¬Qc ao cap c):
 Calls prog 338 #[.slice ao l.length cap,.int .i64 i,.slice (some ⟨c,0,none⟩) 1 1] w λe w'=>∃d f,e=.returned (.slice d (l.length+1) f)/\Own J7 A w0 w' 51 d f (l.take i++[x]++l.drop i)/\Kept (Qc ao cap) w w'/\Bel w0 w'/\∀k,Qc d f k->Qc ao cap k\/w.heap.size<=k:=
 ins .e A w0 w ao cap l h g m i j x c a b p o n
theorem Qij(A:Nat->Prop)(w0 w:World)(ao:Option Addr)(cap:Nat)(l:List Branch)(h:Own Zm A w0 w 58 ao cap l)(g:Bel w0 w)(m:l.length<=100000)(i:Nat)(j:i<=l.length)(x:Branch)(c:Nat)(a b:Value)
 (p:Zm.R (λk=>A k\/Qc ao cap k) w x [a,b]) (o:w.heap[c]?=some (.cells #[a,b] 58 (0,0))) (n:¬Qc ao cap c):
 Calls prog 285 #[.slice ao l.length cap,.int .i64 i,.slice (some ⟨c,0,none⟩) 1 1] w λe w'=>∃d f,e=.returned (.slice d (l.length+1) f)/\Own Zm A w0 w' 58 d f (l.take i++[x]++l.drop i)/\Kept (Qc ao cap) w w'/\Bel w0 w'/\∀k,Qc d f k->Qc ao cap k\/w.heap.size<=k:=
 ins .b A w0 w ao cap l h g m i j x c a b p o n
theorem Qm9(A:Nat->Prop)(w0 w:World)(ao:Option Addr)(cap:Nat)(l:List Qv)(h:Own Z4 A w0 w 134 ao cap l)(g:Bel w0 w)(m:l.length<=100000)(i:Nat)(j:i<=l.length)(x:Qv)(c:Nat)(a b:Value)
 (p:Z4.R (λk=>A k\/Qc ao cap k) w x [a,b]) (o:w.heap[c]?=some (.cells #[a,b] 134 (0,0))) (n:¬Qc ao cap c):
 Calls prog 343 #[.slice ao l.length cap,.int .i64 i,.slice (some ⟨c,0,none⟩) 1 1] w λe w'=>∃d f,e=.returned (.slice d (l.length+1) f)/\Own Z4 A w0 w' 134 d f (l.take i++[x]++l.drop i)/\Kept (Qc ao cap) w w'/\Bel w0 w'/\∀k,Qc d f k->Qc ao cap k\/w.heap.size<=k:=
 ins .p A w0 w ao cap l h g m i j x c a b p o n
theorem Qrx(A:Nat->Prop)(w0 w:World)(ao:Option Addr)(cap:Nat)(l:List Sm)(h:Own L8 A w0 w 444 ao cap l)(g:Bel w0 w)(m:l.length<=100000)(i:Nat)(j:i<=l.length)(x:Sm)(c:Nat)(a b:Value)
 (p:L8.R (λk=>A k\/Qc ao cap k) w x [a,b]) (o:w.heap[c]?=some (.cells #[a,b] 444 (0,0))) (n:¬Qc ao cap c):
 Calls prog 432 #[.slice ao l.length cap,.int .i64 i,.slice (some ⟨c,0,none⟩) 1 1] w λe w'=>∃d f,e=.returned (.slice d (l.length+1) f)/\Own L8 A w0 w' 444 d f (l.take i++[x]++l.drop i)/\Kept (Qc ao cap) w w'/\Bel w0 w'/\∀k,Qc d f k->Qc ao cap k\/w.heap.size<=k:=
 ins .s A w0 w ao cap l h g m i j x c a b p o n
open Go.RowKit Go.Mem Go.Po Go.Shelf
theorem Qie(p:Branch->Bool)(g:Nat)(c:Array Value)(i:Vt g)(A:Nat->Prop)(w0 w:World)(ao:Option Addr)(cap:Nat)(l:List Branch)(j:Own Zm A w0 w 58 ao cap l)(m:l.length<=100000)
 (k:∀(x:Branch) (W:World) (a:Option Addr) (b:Nat),x∈l->Kept (Qc ao cap) w W->Rd Qw (λ_=>False) W a b x.puts->Ans g (.agg #[.int .i64 x.tid,.slice a x.puts.length b]) c W (p x)):
 Calls prog 339 #[.slice ao l.length cap,.func (.func g) #[] c] w λe w'=>e=.returned (.slice ao (l.filter λx=>!p x).length cap)/\Own Zm A w0 w' 58 ao cap (l.filter λx=>!p x)/\Kept (Qc ao cap) w w':=
 del .b p g c i A w0 w ao cap l j m (by rintro x W _ h d ⟨_,_,rfl,f⟩;exact k x W _ _ h d f) (Qp2 p g c i (λ_=>False) w ao cap l j.rd0 (λx W a b h d f=>k x W a b h (d.kept _) f))
theorem Qm4(p:Qv->Bool)(g:Nat)(c:Array Value)(i:Vt g)(A:Nat->Prop)(w0 w:World)(ao:Option Addr)(cap:Nat)(l:List Qv)(j:Own Z4 A w0 w 134 ao cap l)(m:l.length<=100000)
 (k:∀(x:Qv) (W:World) (a:Option Addr) (b:Nat),x∈l->Kept (Qc ao cap) w W->Rd Qh (λ_=>False) W a b x.parts->Ans g (.agg #[.int .i64 x.tid,.slice a x.parts.length b]) c W (p x)):
 Calls prog 344 #[.slice ao l.length cap,.func (.func g) #[] c] w λe w'=>e=.returned (.slice ao (l.filter λx=>!p x).length cap)/\Own Z4 A w0 w' 134 ao cap (l.filter λx=>!p x)/\Kept (Qc ao cap) w w':=
 del .p p g c i A w0 w ao cap l j m (by rintro x W _ h d ⟨_,_,rfl,f⟩;exact k x W _ _ h d f) (Qki p g c i (λ_=>False) w ao cap l j.rd0 (λx W a b h d f=>k x W a b h (d.kept _) f))
theorem Qpu(p:Msg->Bool)(g:Nat)(a:Array Value)(d:Vt g)(A:Nat->Prop)(w0 w:World)(ao:Option Addr)(cap:Nat)(l:List Msg)(h:Own Xy A w0 w 47 ao cap l)(i:l.length<=100000)
 (f:∀(x:Msg) (W:World),x∈l->Kept (Qc ao cap) w W->Ans g (.agg #[.int .i64 x.id,.string x.q,.string x.b,.int .i64 x.seq,.int .i64 x.cnt,.int .i64 x.who]) a W (p x)):
 Calls prog 151 #[.slice ao l.length cap,.func (.func g) #[] a] w λe w'=>e=.returned (.slice ao (l.filter λx=>!p x).length cap)/\Own Xy A w0 w' 47 ao cap (l.filter λx=>!p x)/\Kept (Qc ao cap) w w':=
 del .m p g a d A w0 w ao cap l h i (by rintro x W _ c b rfl;exact f x W c b) (Qod p g a d (λ_=>False) w ao cap l h.rd0 (λx W c b=>f x W c (b.kept _)))
theorem Qev(p:Int->Bool)(g:Nat)(a:Array Value)(d:Vt g)(A:Nat->Prop)(w0 w:World)(ao:Option Addr)(cap:Nat)(l:List Int)(h:Own Qh A w0 w 3 ao cap l)(i:l.length<=100000)
 (f:∀(x:Int) (W:World),x∈l->Kept (Qc ao cap) w W->Ans g (.int .i64 x) a W (p x)):
 Calls prog 244 #[.slice ao l.length cap,.func (.func g) #[] a] w λe w'=>e=.returned (.slice ao (l.filter λx=>!p x).length cap)/\Own Qh A w0 w' 3 ao cap (l.filter λx=>!p x)/\Kept (Qc ao cap) w w':=
 del .i p g a d A w0 w ao cap l h i (by rintro x W _ c b rfl;exact f x W c b) (Qxr p g a d (λ_=>False) w ao cap l h.rd0 (λx W c b=>f x W c (b.kept _)))
theorem Qew(p:ByteArray->Bool)(g:Nat)(a:Array Value)(d:Vt g)(A:Nat->Prop)(w0 w:World)(ao:Option Addr)(cap:Nat)(l:List ByteArray)(h:Own Xk A w0 w 9 ao cap l)(i:l.length<=100000)
 (f:∀(x:ByteArray) (W:World),x∈l->Kept (Qc ao cap) w W->Ans g (.string x) a W (p x)):
 Calls prog 229 #[.slice ao l.length cap,.func (.func g) #[] a] w λe w'=>e=.returned (.slice ao (l.filter λx=>!p x).length cap)/\Own Xk A w0 w' 9 ao cap (l.filter λx=>!p x)/\Kept (Qc ao cap) w w':=
 del .s p g a d A w0 w ao cap l h i (by rintro x W _ c b rfl;exact f x W c b) (Qxs p g a d (λ_=>False) w ao cap l h.rd0 (λx W c b=>f x W c (b.kept _)))
end Go.Proofs.YtkdpmdfcdgphlaaGreat
namespace Go.Po
def Zi{α:Type}[DecidableEq α]:List α->List α
 | []=>[]
 | [x]=>[x]
 | x::y::r=>if x=y then Zi (y::r) else x::Zi (y::r)
theorem Hr{α:Type}[DecidableEq α](x z:α):∀(l:List α),Zi (l++[z]++[x])=Zi (l++[z])++if z=x then [] else [x]
 | []=>by
  simp only[List.nil_append,List.cons_append,Zi];split<;>simp_all
 | a::[]=>by
  have:=Hr x z ([]:List α);simp only[List.nil_append,List.cons_append]at this ⊢;rw[Zi,this];conv=>rhs;rw[Zi]
  split<;>rfl
 | a::b::r=>by
  have:=Hr x z (b::r);simp only[List.cons_append]at this ⊢;rw[Zi,this];conv=>rhs;rw[Zi]
  split<;>rfl
theorem Qau{α:Type}[DecidableEq α]{l:List α}{j:Nat}{z x:α}(b:l[j]?=some z)(a:l[j+1]?=some x):Zi (l.take (j+2))=Zi (l.take (j+1))++if z=x then [] else [x]:=by
 rw[List.take_add_one,a,List.take_add_one,b];exact Hr x z (l.take j)
theorem Rf{α:Type}[DecidableEq α]:∀{l:List α},l.length<2->Zi l=l
 | [],_=>rfl
 | [_],_=>rfl
 | _::_::_,h=>absurd h (by simp)
end Go.Po
namespace Go.Proofs.YtkdpmdfcdgphlaaGreat
open Tryz
open Go.RowKit Go.Mem Go.Po Go.Maps Go.Sort Go.Shelf
theorem Qjn:(∀(A:Nat->Prop) (w0 w:World) (ao:Option Addr) (cap:Nat) (l:List Int) (h:Own Qh A w0 w 2 ao cap l) (ae:l.length<=100000),Calls prog 192 #[.slice ao l.length cap] w λe w'=>e=.returned (.slice ao (Zi l).length cap)/\Own Qh A w0 w' 2 ao cap (Zi l)/\Kept (Qc ao cap) w w') ∧
 (∀(A:Nat->Prop) (w0 w:World) (ao:Option Addr) (cap:Nat) (l:List ByteArray) (h:Own Xk A w0 w 9 ao cap l) (ae:l.length<=100000),Calls prog 319 #[.slice ao l.length cap] w λe w'=>e=.returned (.slice ao (Zi l).length cap)/\Own Xk A w0 w' 9 ao cap (Zi l)/\Kept (Qc ao cap) w w'):=by
 refine⟨have k1:=trivial;?_,have k2:=trivial;?_⟩;all_goals
  intro A w0 w ao cap l h ae;have I:=Zh h;obtain⟨n,c⟩:=Zx l.length;first|(have k2:=k2;have r:prog.elem 286=9:=by kernel_rfl)|(have r:prog.elem 105=2:=by kernel_rfl)
  first|(have k2:=k2;have H:∀w:World,(sizeOf 9).run prog w=.ok 1 w:=λw=>by kernel_rfl)|(have H:∀w:World,(sizeOf 2).run prog w=.ok 1 w:=λw=>by kernel_rfl)
  have N:=h.le;have aE:=h.max;simp only[maxLen]at aE;rw[<-c]at ae N;have f:=Zh c;rw[<-c];clear h c;by_cases aT:n<2
  ·have U:=Zh (Rf (l:=l) (by have:=f.o;omega))
   have aI:((n:Int)<2)=True:=eq_true (by omega);first|(have k2:=k2;go_enter func319,ntmps319)|(go_enter func192,ntmps192)
   go_wp2;go_ret;rw[U.o,<-f.o];exact⟨rfl,I,Kept.refl _ _⟩
  ·have aI:((n:Int)<2)=False:=eq_false (by omega)
   obtain⟨bb,o⟩:∃x,l[0]?=some x:=⟨l[0]'(by have:=f.o;omega),by simp⟩;obtain⟨c,off,s,rfl,d,-,-,-⟩:=I.at o;have af:=d.1;clear o d s;first|(have k2:=k2;go_enter func319,ntmps319)|(go_enter func192,ntmps192)
   go_wp2;go_loopw[3] (λa wr=>∃k:Nat,1<=k/\k<=n/\a=.int .i64 k/\Hid (Zi (l.take k)=l.take k)/\Hid (Bel w wr)) (λa _=>n-(intOf a).toNat)
   case atStart=>exact⟨1,Nat.le_refl _,by omega,rfl,Zh (Rf (by rw[List.length_take];omega)),Zh (Bel.refl _)⟩
   case round=>
    obtain⟨k,aH,aW,rfl,W,J⟩:=hrel;by_cases aU:k<n
    ·obtain⟨j,rfl⟩:∃j,k=j+1:=⟨k-1,by omega⟩
     obtain⟨x,d⟩:∃x,l[j+1]?=some x:=⟨l[j+1]'(by have:=f.o;omega),by simp⟩;obtain⟨z,o⟩:∃z,l[j]?=some z:=⟨l[j]'(by have:=f.o;omega),by simp⟩;obtain⟨ai,au,vs,M,-,Z,-,B⟩:=(I.bel J.o).at d;cases M;obtain rfl:=Z;obtain⟨aj,av,aQ,ac,-,aa,⟨T,C⟩,F⟩:=(I.bel J.o).at o;cases ac;obtain rfl:=aa;first|(have k2:=k2;have c0:wr.cell? ⟨c,off+(j+1),none⟩=some (.string x):=by have:=B 0 (by decide);simpa[show Xk.size=1 from rfl] using this)|(have c0:wr.cell? ⟨c,off+(j+1),none⟩=some (.int .i64 x):=by have:=B 0 (by decide);simpa[show Qh.size=1 from rfl] using this)
     first|(have k2:=k2;have c1:wr.cell? ⟨c,off+j,none⟩=some (.string z):=by have:=F 0 (by decide);simpa[show Xk.size=1 from rfl] using this)|(have c1:wr.cell? ⟨c,off+j,none⟩=some (.int .i64 z):=by have:=F 0 (by decide);simpa[show Qh.size=1 from rfl] using this)
     have O:=Qau o d;have L:=Zh O;have aF:=Qb C;have a8:=Zh d;have aM:IntKind.i64.wrap (((j+1:Nat):Int)-1)=(j:Int):=by rw[IntKind.wrap_i64];omega
     have am:(0:Int)<=((j+1:Nat):Int):=by omega
     have an:((j+1:Nat):Int)<(n:Int):=by omega
     have ap:(0:Int)<=(j:Int):=by omega
     have aG:(j:Int)<(n:Int):=by omega
     clear B F O d o C;by_cases E:z=x
     ·first|(have k2:=k2;have o:(x.toList==z.toList)=true:=by rw[E];simp)|(have o:(x==z)=true:=by rw[E];simp)
      first|(have k2:=k2;have al:=λw=>Vq (P:=prog) 286 1 (by rw[r];exact underlying286) (λw=>by rw[r];exact H w) (some ⟨c,off,none⟩) n cap (j+1) (by omega) w)|(have al:=λw=>Vq (P:=prog) 105 1 (by rw[r];exact underlying105) (λw=>by rw[r];exact H w) (some ⟨c,off,none⟩) n cap (j+1) (by omega) w)
      rw[show adv (some ⟨c,off,none⟩) cap (j+1) 1=some ⟨c,off+(j+1),none⟩ by rw[adv,if_neg (by omega),Option.map_some,Addr.add_lit,Nat.mul_one]]at al;have ay:=Zh E;clear E;go_upto_region 6 with (fail);have Q:=Up.cell c0;have R:=Up.cell c1;refine Qs (by kernel_rfl) (by kernel_rfl) ?_;repeat(go_big_quiet_step(fail))
      refine Xg λaR G=>?_
      obtain⟨S,ax⟩:=Zh2 (J.trans G) G;clear G Q R c0 c1;have aC:Hid (l.take (j+1)=Zi (l.take (j+2))):=Zh (by rw[L.o,if_pos ay.o,List.append_nil,W.o]);go_wp2;first|(have k2:=k2;go_loopw[3,5] (λa b d=>∃(k q:Nat) (m:List ByteArray),1<=q/\j+1<=k/\k<=j+q/\j+1+q<=n/\a=.int .i64 k/\b=.int .i64 q/\Hid (Own Xk A w0 d 9 (some ⟨c,off,none⟩) cap m)/\Hid (m.length=n)/\Hid (m.take k=Zi (l.take (j+1+q)))/\Hid (m.drop (j+q)=l.drop (j+q))/\Hid (Kept (Qc (some ⟨c,off,none⟩) cap) w d)) (λ_ b _=>n-(intOf b).toNat))|(go_loopw[3,5] (λa b d=>∃(k q:Nat) (m:List Int),1<=q/\j+1<=k/\k<=j+q/\j+1+q<=n/\a=.int .i64 k/\b=.int .i64 q/\Hid (Own Qh A w0 d 2 (some ⟨c,off,none⟩) cap m)/\Hid (m.length=n)/\Hid (m.take k=Zi (l.take (j+1+q)))/\Hid (m.drop (j+q)=l.drop (j+q))/\Hid (Kept (Qc (some ⟨c,off,none⟩) cap) w d)) (λ_ b _=>n-(intOf b).toNat))
      case atStart=>exact⟨j+1,1,l,by omega,by omega,by omega,by omega,rfl,rfl,Zh (I.bel S.o),Zh f.symm,aC,Zh rfl,Zh (S.kept _)⟩
      case round=>
       obtain⟨k,q,m,aZ,aH,aV,ba,rfl,rfl,t,s,ab,X,Y⟩:=hrel;obtain⟨p,rfl⟩:∃p,q=p+1:=⟨q-1,by omega⟩;by_cases K:p+1<n-(j+1)
       ·obtain⟨d,V⟩:∃x,l[j+1+(p+1)]?=some x:=⟨l[j+1+(p+1)]'(by have:=f.o;omega),by simp⟩
        obtain⟨D,ad⟩:∃z,l[j+1+p]?=some z:=⟨l[j+1+p]'(by have:=f.o;omega),by simp⟩;have aq:m[j+1+(p+1)]?=some d:=by
         have:=congrArg (λq=>q[1]?) X.o;simp only[List.getElem?_drop]at this;rw[show j+1+(p+1)=j+(p+1)+1 by omega,this,show j+(p+1)+1=j+1+(p+1) by omega];exact V
        have ar:m[j+1+p]?=some D:=by
         have:=congrArg (λq=>q[0]?) X.o;simp only[List.getElem?_drop]at this;rw[show j+1+p=j+(p+1)+0 by omega,this,show j+(p+1)+0=j+1+p by omega];exact ad
        obtain⟨ai,au,vs,M,-,Z,-,B⟩:=t.at aq;cases M;obtain rfl:=Z;obtain⟨aj,av,aQ,ac,-,aa,⟨T,C⟩,F⟩:=t.at ar;cases ac;obtain rfl:=aa;first|(have k2:=k2;have c0:wr.cell? ⟨c,off+(j+1)+(p+1),none⟩=some (.string d):=by have:=B 0 (by decide);simpa[show Xk.size=1 from rfl,Nat.add_assoc] using this)|(have c0:wr.cell? ⟨c,off+(j+1)+(p+1),none⟩=some (.int .i64 d):=by have:=B 0 (by decide);simpa[show Qh.size=1 from rfl,Nat.add_assoc] using this)
        first|(have k2:=k2;have c1:wr.cell? ⟨c,off+(j+1)+p,none⟩=some (.string D):=by have:=F 0 (by decide);simpa[show Xk.size=1 from rfl,Nat.add_assoc] using this)|(have c1:wr.cell? ⟨c,off+(j+1)+p,none⟩=some (.int .i64 D):=by have:=F 0 (by decide);simpa[show Qh.size=1 from rfl,Nat.add_assoc] using this)
        have O:Zi (l.take (j+1+p+2))=Zi (l.take (j+1+p+1))++if D=d then [] else [d]:=Qau ad V
        obtain⟨L,ah⟩:=Zh2 O C;have ak:Hid (m.drop (j+(p+2))=l.drop (j+(p+2))):=Zh (by
         have:=congrArg (λq=>q.drop 1) X.o;simpa[List.drop_drop,Nat.add_assoc] using this)
        have aF:=Qb C;have aM:IntKind.i64.wrap (((p+1:Nat):Int)-1)=(p:Int):=by rw[IntKind.wrap_i64];omega
        have am:(0:Int)<=((p+1:Nat):Int):=by omega
        have an:((p+1:Nat):Int)<((n-(j+1):Nat):Int):=by omega
        have ap:(0:Int)<=(p:Int):=by omega
        have aG:(p:Int)<((n-(j+1):Nat):Int):=by omega
        clear B F O V ad aq ar C o;go_upto_region 11 with (fail);have Q:=Up.cell c0;have R:=Up.cell c1;refine Qs (by kernel_rfl) (by kernel_rfl) ?_;repeat(go_big_quiet_step(fail))
        refine Xg λO F=>?_
        have B:=Zh F;have c3:=F.cell c0;clear Q R c0 c1 F;by_cases F:D=d
        ·first
          | (have k2:=k2
             have o:(d.toList==D.toList)=true:=by rw[F];simp
             simp only[o,Bool.not_true])
          | (have o:(d !=D)=false:=by rw[F];simp)
         have V:Hid (m.take k=Zi (l.take (j+1+(p+2)))):=Zh (by rw[show j+1+(p+2)=j+1+p+2 by omega,L.o,if_pos F,List.append_nil];exact ab.o);have aA:IntKind.i64.wrap (((p+1:Nat):Int)+1)=((p+2:Nat):Int):=by rw[IntKind.wrap_i64];omega
         clear F c3;go_wp2;go_roundw
         case rel=>exact⟨k,p+2,m,by omega,by omega,by omega,by omega,rfl,by go_num,Zh (t.bel B.o),s,V,ak,Zh (Y.trans (B.kept _))⟩
         case measure=>simp[intOf];omega
        ·first
          | (have k2:=k2
             have o:(d.toList==D.toList)=false:=by rw[<-beq_toListBytes];exact Bool.eq_false_iff.2 λh=>F ((MapKept.bytes_beq _ _).1 h).symm
             simp only[o,Bool.not_false])
          | (have o:(d !=D)=true:=by simpa using λh=>F h.symm)
         have ar:=Zh F;obtain⟨y,aq⟩:∃y,m[k]?=some y:=⟨m[k]'(by have:=s.o;omega),by simp⟩;obtain⟨aB,aL,aN,a9,-,az,-,V⟩:=t.at aq;cases a9;obtain rfl:=az;first|(have k2:=k2;have aw:O.cell? ⟨c,off+k,none⟩=some (.string y):=by have:=B.cell (p:=⟨c,off+k*Xk.size+0,none⟩) (V 0 (by decide));simpa[show Xk.size=1 from rfl] using this)|(have aw:O.cell? ⟨c,off+k,none⟩=some (.int .i64 y):=by have:=B.cell (p:=⟨c,off+k*Qh.size+0,none⟩) (V 0 (by decide));simpa[show Qh.size=1 from rfl] using this)
         have aO:O.frozen? ⟨c,off+k,none⟩=false:=Qa (B.heap ah.o) _;have aP:=Qb (B.heap ah);have aK:IntKind.i64.wrap ((k:Int)+1)=((k+1:Nat):Int):=by rw[IntKind.wrap_i64];omega
         have aA:IntKind.i64.wrap (((p+1:Nat):Int)+1)=((p+2:Nat):Int):=by rw[IntKind.wrap_i64];omega
         have aD:(0:Int)<=(k:Int):=by omega
         have aJ:(k:Int)<(n:Int):=by omega
         first|(have k2:=k2;have O:=(t.bel B.o).set rfl (i:=k) (by have:=s.o;omega) (x:=d) (vs:=[.string d]) rfl)|(have O:=(t.bel B.o).set rfl (i:=k) (by have:=s.o;omega) (x:=d) (vs:=[.int .i64 d]) rfl)
         first|(have k2:=k2;rw[show Xk.size=1 from rfl,Nat.mul_one]at O)|(rw[show Qh.size=1 from rfl,Nat.mul_one]at O)
         have ad:=Zh O;clear F V O aq;go_wp2;go_roundw
         case rel=>
          refine⟨k+1,p+2,m.set k d,by omega,by omega,by omega,by omega,by go_num,by go_num,Zh ad.1,Zh (by rw[List.length_set];exact s.o),Zh ?_,Zh ?_,Zh ((Y.trans (B.kept _)).trans ad.2)⟩
          ·have F:k<m.length:=by have:=s.o;omega
           rw[show j+1+(p+2)=j+1+p+2 by omega,L.o,if_neg ar.o,List.take_add_one,List.getElem?_set_self F,List.take_set_of_le (Nat.le_refl _),ab.o];rfl
          ·rw[List.drop_set_of_lt (by omega)];exact ak.o
         case measure=>simp[intOf];omega
       ·have aY:j+1+(p+1)=n:=by omega
        have F:m.take k=Zi l:=by rw[ab.o,List.take_of_length_le (by have:=f.o;omega)]
        have aX:(((p+1:Nat):Int)<((n-(j+1):Nat):Int))=False:=eq_false (by omega);have B:(m.take k).length=k:=by rw[List.length_take];have:=s.o;omega
        obtain⟨ai,au,vs,M,aJ,-,⟨T,C⟩,-⟩:=t.at (k:=k) (x:=m[k]'(by have:=s.o;omega)) (by simp);cases M;have aL:=t.o;obtain⟨xs,aD,⟨aN,aO,aP,aw⟩,-⟩:=aL;obtain⟨aj,av,aS,a9,aA,d,O,aB⟩:=aw af;cases a9;rw[d]at C;cases C;first|(have k2:=k2;rw[show Xk.size=1 from rfl]at O)|(rw[show Qh.size=1 from rfl]at O)
        first
         | (have k2:=k2
            obtain⟨ah,ar,ad⟩:=Dy (P:=prog) wr 286 9 0 (.string ⟨#[]⟩) [(.string ⟨#[]⟩)] underlying286 (λw=>zeroValue9 w) rfl (by intro v D;simp only[List.mem_cons,List.not_mem_nil,or_false]at D;rcases D with rfl<;>rfl) (by decide) c (off+k) (n-k) (cap-k) (by omega) (λq K=>by
             simp only[List.length_cons,List.length_nil]at K;have V:off+k+q<T.size:=by have:n<=cap:=N;omega
             simp[World.cell?,d,V]) (λq K=>by simp[World.frozen?,d]))
         | (obtain⟨ah,ar,ad⟩:=Dy (P:=prog) wr 105 2 0 (.int .i64 0) [(.int .i64 0)] underlying105 (λw=>zeroValue2 w) rfl (by intro v D;simp only[List.mem_cons,List.not_mem_nil,or_false]at D;rcases D with rfl<;>rfl) (by decide) c (off+k) (n-k) (cap-k) (by omega) (λq K=>by
             simp only[List.length_cons,List.length_nil]at K;have V:off+k+q<T.size:=by have:n<=cap:=N;omega
             simp[World.cell?,d,V]) (λq K=>by simp[World.frozen?,d]))
        simp only[List.length_cons,List.length_nil]at ar;first|(have k2:=k2;have aq:=λw=>Vq (P:=prog) 286 1 (by rw[r];exact underlying286) (λw=>by rw[r];exact H w) (some ⟨c,off,none⟩) n cap k (by omega) w)|(have aq:=λw=>Vq (P:=prog) 105 1 (by rw[r];exact underlying105) (λw=>by rw[r];exact H w) (some ⟨c,off,none⟩) n cap k (by omega) w)
        rw[show adv (some ⟨c,off,none⟩) cap k 1=some ⟨c,off+k,none⟩ by rw[adv,if_neg (by omega),Option.map_some,Addr.add_lit,Nat.mul_one]]at aq;first|(have k2:=k2;have aK:=λw=>Mo (P:=prog) 286 9 1 underlying286 r H (some ⟨c,off,none⟩) n cap k (by omega) w)|(have aK:=λw=>Mo (P:=prog) 105 2 1 underlying105 r H (some ⟨c,off,none⟩) n cap k (by omega) w)
        first|(have k2:=k2;have D:=(t.front (i:=k) (by have:=s.o;omega)).behind (g:=c) (off:=off) (n:=n) (vs:=ah) rfl (Nat.mul_le_mul_right _ N) (by rw[B,show Xk.size=1 from rfl];omega) af)|(have D:=(t.front (i:=k) (by have:=s.o;omega)).behind (g:=c) (off:=off) (n:=n) (vs:=ah) rfl (Nat.mul_le_mul_right _ N) (by rw[B,show Qh.size=1 from rfl];omega) af)
        first|(have k2:=k2;rw[B,show Xk.size=1 from rfl,F,Nat.mul_one]at D)|(rw[B,show Qh.size=1 from rfl,F,Nat.mul_one]at D)
        have ak:(Zi l).length=k:=by rw[<-F];exact B
        obtain⟨V,az⟩:=Zh2 D ak;have am:(0:Int)<=(k:Int):=by omega
        have an:(k:Int)<=(n:Int):=by omega
        have ap:(k:Int)<=(cap:Int):=by omega
        clear F B aJ aD aN aO aP aw aA d O aB D ak o;first|(have k2:=k2;go_wp2_with(at_builtin;refine wpList_clear_run _ rfl _ 286 rfl _ rfl ad ?_))|(go_wp2_with(at_builtin;refine wpList_clear_run _ rfl _ 105 rfl _ rfl ad ?_))
        go_ret;rw[az.o];exact⟨rfl,V.1,Y.trans V.2⟩
     ·first|(have k2:=k2;have o:(x.toList==z.toList)=false:=by rw[<-beq_toListBytes];exact Bool.eq_false_iff.2 λh=>E ((MapKept.bytes_beq _ _).1 h).symm)|(have o:(x==z)=false:=by simpa using λh=>E h.symm)
      have d:Hid (Zi (l.take (j+2))=l.take (j+2)):=Zh (by rw[L.o,if_neg E,W.o,List.take_add_one (i:=j+1),a8.o];rfl);have s:IntKind.i64.wrap (((j+1:Nat):Int)+1)=((j+2:Nat):Int):=by rw[IntKind.wrap_i64];omega
      go_upto_region 6 with (fail);have Q:=Up.cell c0;have R:=Up.cell c1;refine Qs (by kernel_rfl) (by kernel_rfl) ?_;repeat(go_big_quiet_step(fail))
      refine Xg λaR G=>?_
      obtain⟨S,ax⟩:=Zh2 (J.trans G) G;clear G Q R c0 c1;clear E;go_wp2;go_roundw
      case rel=>exact⟨j+2,by omega,by omega,by go_num,d,S⟩
      case measure=>simp[intOf];omega
    ·obtain rfl:k=n:=by omega
     have U:Hid (Zi l=l):=Zh (by have:=W.o;rwa [List.take_of_length_le (by have:=f.o;omega)]at this);go_wp2;go_ret;rw[U.o,<-f.o];exact⟨rfl,I.bel J,J.kept _⟩
def Qjo:=Qjn.1
def Qm0:=Qjn.2
end Go.Proofs.YtkdpmdfcdgphlaaGreat

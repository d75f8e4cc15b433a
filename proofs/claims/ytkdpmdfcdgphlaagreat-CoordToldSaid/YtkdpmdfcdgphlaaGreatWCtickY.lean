/- Part of this claim's proof. Conditions: as its theorems say. -/
import Derived.Test.YtkdpmdfcdgphlaaGreatM9
import Derived.Test.YtkdpmdfcdgphlaaGreatWCtickX
set_option linter.all false
namespace Go.Mem
theorem Own.rdx{α:Type}{r:Rp α}{A:Nat->Prop}{w0 w:World}{e:TypeId}{ao:Option Addr}{cap:Nat}{l:List α}(h:Own r A w0 w e ao cap l)(d:∀k,Qc ao cap k->¬A k):Rd r A w ao cap l:=by
 obtain⟨xs,a,b,-⟩:=h;exact⟨xs,a.mono λ_ _ _ h=>r.mono h λ_ _ h=>.inl h,b.sr λk f c=>d k f c⟩
end Go.Mem
namespace Go.Proofs.YtkdpmdfcdgphlaaGreat
open Go.RowKit Go.Mem Go.Po
section
variable {n n' : Nat} {A B O Ok Op S : Nat → Prop} {w w' : World} {cb pb kb db om : Nat}
theorem tick_step{b a:Br}{d:List Ye}{c:Int}{i:Nat}{p:Qv}(h:(b.s.opens.take i).foldl tickOne ((tick0 b,0),b)=((d,c),a))(e:b.s.opens[i]?=some p):(b.s.opens.take (i+1)).foldl tickOne ((tick0 b,0),b)=tickOne ((d,c),a) p:=by
 rw[List.take_add_one,e,List.foldl_append,h];rfl
theorem srcPks{w:World}{ao:Option Addr}{cap:Nat}{l:List Ye}(h:Rd Xw A w ao cap l)(B:Nat->Prop):∃xs,Ch (Xw.R B w) 6 l xs/\Src Tryz.prog 6 63 (.slice ao l.length cap) l.length xs w:=by
 obtain⟨xs,a,b⟩:=h.src (P:=Tryz.prog) Tryz.underlying63;exact⟨xs,a.mono λ_ _ _ h=>h,b⟩
set_option maxHeartbeats 8000000 in
set_option maxRecDepth 100000 in
theorem ctick_any(b:Br)(h:b.of n A O w cb pb kb db)(D:∀k,A k->k<w.heap.size)(H:n+b.s.opens.length<199)(G:oldK b.s.opens.length b.K):
 Calls Tryz.prog 48 #[.pointer (some ⟨cb,0,none⟩)] w λe w'=>∃ao cap,e=.returned (.tuple #[.slice ao (tickX b).1.1.length cap,.int .i64 (tickX b).1.2])/\Zq A O w w' λA O w=>(tickX b).2.of (n+b.s.opens.length) A O w cb pb kb db/\Rd Xw A w ao cap (tickX b).1.1:=by
 obtain⟨aD,aE⟩:=Zh2 h D;obtain⟨c0,c1,c2⟩:=Br.cells h;have bR:=Zd c0;have V:=Zh (Fu h);have t:=(Br.good h).may;have I:=parts7 t;have y:=Qex t;obtain⟨aS,bx,br⟩:=Zh3 I (Mh t) c0;obtain⟨ba,s⟩:∃ba,ba=tickX b:=⟨_,rfl⟩;rw[<-s];rw[tickX]at s;obtain⟨M,o⟩:∃M,M=b.s.opens:=⟨_,rfl⟩;obtain⟨E,v⟩:∃E,E=b.s.noes:=⟨_,rfl⟩;obtain⟨af,c⟩:∃af,af=b.s.broker:=⟨_,rfl⟩;obtain⟨m,B⟩:∃m,m=E.length:=⟨_,rfl⟩;obtain⟨z,d⟩:∃z,z=M.length:=⟨_,rfl⟩;obtain⟨F,ab⟩:∃F:List Qv->List Ye,F=λl=>l.flatMap λp=>Fw af p.tid false p.parts:=⟨_,rfl⟩
 obtain⟨aO,bu,bt⟩:=Zh3 (show F []=[] by rw[ab];rfl) (show ∀l p,F (l++[p])=F l++Fw af p.tid false p.parts fromλl p=>by rw[ab];simp) (show F E=tick0 b by rw[ab,v,c];rfl);have ca:m<=2000:=by rw[B,v];exact y.2.2.2.2
 have cc:z<=2000:=by rw[d,o];exact y.2.2.2.1
 have cd:n+z<199:=by rw[d,o];exact H
 have bv:=Zh (show oldK z b.K by rw[d,o];exact G);rw[show b.s.opens.length=z by rw[d,o]];obtain⟨b0,J,an,bq,al,am⟩:=Zh6 s o v c B d;clear h D s o v B d ab G H t I y c0 c2;go_enter Tryz.func48,Tryz.ntmps48;go_wp2_with fail;refine V.mono ?_;rintro e bi ⟨bO,bK,bP,bL,bM,bJ,aB,a9,bm,bk,rfl,t,b2⟩;obtain⟨B,o⟩:∃B,B=bi.alloc (.cells #[.int .i64 b.s.broker,.int .i64 b.s.nextId,.int .i64 b.s.nextSeq,.int .i64 b.s.tx,.slice bO b.s.ms.length bK,.slice bP b.s.waits.length bL,.slice bM b.s.ends.length bJ,.slice aB b.s.opens.length a9,.slice bm b.s.noes.length bk] 43):=⟨_,rfl⟩;have s:=Zb o;have d:=Zn o;obtain⟨aU,aX,aC⟩:=Zh3 o (t.bel s) (b2.trans s);rw[<-J.o,<-an.o,<-al.o,<-am.o]at d;have b9:=Zh d;clear t b2 s o c1;have ai:=cell_of_block d 8 _ rfl;have bF:=Qb d;clear d;go_upto_region 4 with (fail);rw[<-J.o,<-an.o,<-al.o,<-am.o]at aU;rw[<-J.o,<-an.o,<-al.o,<-am.o,<-aU.o];go_wp2;go_loopw[5,24] (λq a wr=>∃(i:Nat) (v:Option Addr) (t d:Nat),i<=m/\a=.int .i64 i/\q=.slice v d t/\Hid (d=(F (E.take i)).length/\d<=7*i)/\Hid (Own Xw (λ_=>False) B wr 80 v t (F (E.take i)))/\Hid (Bel B wr)) (λ_ a _=>m-(intOf a).toNat)
 case atStart=>exact⟨0,none,0,0,Nat.zero_le _,rfl,rfl,Zh ⟨by rw[List.take_zero,aO.o];rfl,Nat.le_refl _⟩,Zh (by rw[List.take_zero,aO.o];exact Own.nil _ _ _ _ _),Zh (Bel.refl _)⟩
 case round=>
  obtain⟨i,v,t,d,bU,rfl,rfl,s,aH,P⟩:=hrel;by_cases bT:i<m
  ·obtain⟨p,D⟩:∃p,E[i]?=some p:=⟨E[i]'(by have:=al.o;omega),by simp⟩
   have aj:=List.mem_of_getElem? D;obtain⟨g,off,ap,ar,aL,bC,ay,az,au⟩:=Vo ((show Rd Z4 _ B bm bk E from an.o▸aX.noes).bel P.o) D;have aK:p.parts.length<=7:=aS.2 p (an.o▸aj);have V:=bu (E.take i) p;rw[show E.take i++[p]=E.take (i+1) by rw[List.take_add_one,D];rfl]at V;have Y:=Zh V;have bD:(0:Int)<=(i:Int):=by omega
   have bE:(i:Int)<(m:Int):=by omega
   have bI:IntKind.i64.wrap ((i:Int)+1)=((i+1:Nat):Int):=by rw[IntKind.wrap_i64];omega
   obtain⟨N,U⟩:∃N,N=wr.alloc (.cells #[.int .i64 p.tid,.slice ap p.parts.length ar] 134):=⟨_,rfl⟩;have S:=Zb U;obtain⟨ax,Q,aw⟩:=Zh3 (Qdz (A:=λ_=>False) af p.tid false p.parts (bq.o▸S.cell (P.cell (aC.cell br.o))) ap ar (au.bel S) (by omega)) S U;subst aL;clear aj D au V U S ai;go_wp2_with fail;rw[<-aw.o];refine ax.mono ?_;rintro e bj ⟨po,pc,rfl,ak,aq⟩;have o:=Zh (Q.trans aq);obtain⟨pk,K⟩:∃pk,pk=Fw af p.tid false p.parts:=⟨_,rfl⟩;have bc:pk.length<=7:=by rw[K,Fw,List.length_map];exact aK
   rw[<-K]at ak;rw[<-K];obtain⟨xs,W,X⟩:=srcPks ak.rd0 (λk=>False\/Qc v t k);obtain⟨ad,ae,y⟩:=Zh3 W X K;clear ak aq W X K ay az;have bb:d<=14000:=by have:=s.2;omega
   go_wp2_with(at_builtin;go_must (refine Xe (r:=Xw) (A:=λ_=>False) (w0:=B) _ rfl _ _ 63 63 rfl Qhf v d t (F (E.take i)) s.1 (aH.bel o.o) rfl _ rfl pk xs ad.o ae.o (by omega) (by omega) (Nat.le_trans P.size o.size) ?_);intro Z aa aN I H L;have av:=Zh I;have ah:=Zh H;clear I H L);have ac:=Zh ((P.trans o.o).of_kept ah.o λk R=>by obtain⟨_,_,_,G⟩:=aH.o;exact G k R);go_roundw
   case rel=>exact⟨i+1,Z,aa,d+pk.length,by omega,by go_num,by rfl,Zh ⟨by rw[Y.o,List.length_append,<-s.1,<-y.o],by have:=s.2;omega⟩,Zh (by rw[Y.o,<-y.o];exact av.o),ac⟩
   case measure=>simp[intOf];omega
  ·obtain rfl:i=m:=by omega
   have o:=aH.o;have ah:=s.o;rw[List.take_of_length_le (by rw[<-al.o];exact Nat.le_refl _),bt.o]at o ah;have bH:w.heap.size<=B.heap.size:=aC.size;have av:=Br.oa aD;have y:∀k,Qc v t k->B.heap.size<=k:=λk R=>by obtain⟨_,_,_,G⟩:=o;exact G k R
   have ac:=Br.lt aD;have c:=aC.trans P;have b7:=Zh (show Tkxx A O w B wr O (n+0) b v t (tick0 b) aB a9 M cb pb kb db from⟨Br.keep aD.o (c.kept λ_=>False) (λ_ _ h=>h) (λ_ h=>h.elim) (λj Q h=>by
    rcases h with (h|h)|h
    ·exact h
    ·have:=y j h;omega
    ·exact av j h) λj Q=>.inr Q,c.kept O,λj Q=>.inl Q,o,λk R h=>by
    have:=y k R;have:=ac k h;omega,(show Rd Z4 _ B aB a9 M from J.o▸aX.opens).keep (P.kept λ_=>False) (λ_ h=>h.elim) (λk R h=>by
    rcases h with (h|h)|h
    ·exact aE k h
    ·have:=y k h;omega
    ·exact ac k h),bH,P.size⟩)
   have bQ:=P.cell (cell_of_block b9 7 _ rfl);have bW:bi.heap.size<wr.heap.size:=Nat.lt_of_lt_of_le bF P.size;have aR:=Zh ah;clear o ah av y ac c ai;go_wp2;go_loopw[5,8,40] (λq f a wr=>∃(j:Nat) (v:Option Addr) (t d:Nat) (y:List Ye) (o:Int) (c:Br) (ac:Nat->Prop),j<=z/\a=.int .i64 j/\q=.slice v d t/\f=.int .i64 o/\Hid (d=y.length/\d<=14000+7*j)/\Hid ((M.take j).foldl tickOne ((tick0 b,0),b)=((y,o),c))/\Hid (oldK ((z:Int)-j) c.K)/\Hid (Tkxx A O w B wr ac (n+j) c v t y aB a9 M cb pb kb db)) (λ_ _ a _=>z-(intOf a).toNat)
   case atStart=>exact⟨0,v,t,d,tick0 b,0,b,O,Nat.zero_le _,rfl,rfl,rfl,Zh ⟨aR.1,by have:=aR.2;omega⟩,Zh rfl,Zh (by simpa using bv.o),b7⟩
   case round=>
    obtain⟨j,v,t,d,y,o,c,ac,bV,rfl,rfl,rfl,s,ab,aJ,a8⟩:=hrel;by_cases Q:j<z
    ·obtain⟨p,D⟩:∃p,M[j]?=some p:=⟨M[j]'(by have:=am.o;omega),by simp⟩
     have aj:=List.mem_of_getElem? D;obtain⟨g,off,ap,ar,aL,bC,ay,az,au⟩:=Vo a8.rd D;have aK:p.parts.length<=7:=aS.1 p (J.o▸aj);have bd:i64 p.tid:=(bx.o p (J.o▸aj)).1;have V:(M.take (j+1)).foldl tickOne ((tick0 b,0),b)=tickOne ((y,o),c) p:=by
      rw[J.o];exact tick_step (J.o▸ab.o) (J.o▸D)
     have Y:=Zh V;have bD:(0:Int)<=(j:Int):=by omega
     have bE:(j:Int)<(z:Int):=by omega
     have bI:IntKind.i64.wrap ((j:Int)+1)=((j+1:Nat):Int):=by rw[IntKind.wrap_i64];omega
     obtain⟨N,U⟩:∃N,N=wr.alloc (.cells #[.int .i64 p.tid,.slice ap p.parts.length ar] 134):=⟨_,rfl⟩;have S:=Zb U;have av:=Zn U;have ax:=a8.bel S;obtain⟨Op,om,C,aA,ah,G,aI,aM,aP⟩:=show Cq (n+j) (λk=>(A k\/Qc v t k)\/ac k) ac N cb pb kb db c.l c.s c.G c.K from ax.q
     have ai:=λg:Up N=>Qzq (G.bel g.bel).mp bd
     have bh:=Up.cell G.c3;have bg:=Up.cell (cell_of_block av 0 _ rfl);have ch:=Qb av;have bS:cb<N.heap.size:=Zd G.c3;obtain⟨aT,aw,b8,aV,b3,aF,b4,aG,aW,bw⟩:=Qzj ax U av aA ah G aI aM aP (au.bel S);subst aL;clear aj D au V U av S ax aA ah G aI aM aP;rcases S:Qn p.tid C with _|x
     ·rw[S]at ai
      dsimp only[Option.map_none]at ai;have U:=Zh (show tickOne ((y,o),c) p=((y,o),c) by rw[tickOne];dsimp only;rw[<-aG.o,Qt2,S];rfl);clear S;go_upto_region 14 with (fail);rw[<-aw.o];refine Qs (by kernel_rfl) (by kernel_rfl) ?_;repeat(go_big_quiet_step(fail))
      refine Xg λaj D=>?_
      have V:=Zh D;clear D bg bh ai ay az;go_wp2;go_roundw
      case rel=>exact⟨j+1,v,t,d,y,o,c,ac,by omega,by go_num,rfl,rfl,Zh ⟨s.1,by have:=s.2;omega⟩,Zh (by rw[Y.o,U.o]),Zh (aJ.mono (by omega)),Zh ((aT.bel V.o).more (by omega))⟩
      case measure=>simp[intOf];omega
     ·rw[S]at ai
      dsimp only[Option.map_some]at ai;have V:Qn p.tid c.K=some x.a:=by rw[<-aG.o,Qt2,S];rfl
      have ah:Wj N x:=aF.ent _ (Xh S);have ce:x.a.ticks+((z:Int)-j)<=1000000:=aJ.o _ (Xh V);have cf:=ah.tk;have cg:IntKind.i64.wrap (x.a.ticks+1)=x.a.ticks+1:=by rw[IntKind.wrap_i64];omega
      obtain⟨aQ,b1,au,aP⟩:=Zh4 (show oldK ((z:Int)-(j+1:Nat)) (upB c p.tid x.a).K from(aJ.mono (k':=((z:Int)-(j+1:Nat))+1) (by omega)).put V) ah S V;clear ah S V;go_upto_region 14 with (fail);rw[<-aw.o];refine Qs (by kernel_rfl) (by kernel_rfl) ?_;repeat(go_big_quiet_step(fail))
      refine Xg λaj D=>?_
      have aZ:=aT.bel D;obtain⟨S,V⟩:=(aF.bel D).ticked au.o (by omega);have ah:=D.heap b1.blk;have bB:=cell_of_block ah 2 _ rfl;have bA:=Qa (show aj.heap[x.e]?=some (.cells _ _ (0,0)) from ah) 2;obtain⟨ax,aI⟩:∃ax,ax=aj.setCell ⟨x.e,2,none⟩ (.int .i64 (x.a.ticks+1)):=⟨_,rfl⟩;rw[<-aI]at S V;have aM:=Qyz (b3.bel D) (aF.bel D) b4 aV (aW.same (x:=⟨x.e,x.vb,x.ym,x.nm,x.mm,upA x.a⟩) au (aW.2 _ (Xh au))) (Nat.le_refl _) S V (Qxd λj Q=>.inl (.inr (.inr ⟨_,Xh au,Q⟩)));rw[Qjq,aG.o]at aM;obtain⟨b5,aY,-,bf⟩:=aZ.turn (b2:=upB c p.tid x.a) (pk:=[]) (ao:=none) (cap:=0) (aM.imp λA O w h=>⟨h,Rd.nil _ _ _ _ _ (Nat.zero_le _)⟩);obtain⟨av,b6,aj,bs⟩:=Zh4 aY (bf (bw.bel D)) (show Wj ax ⟨x.e,x.vb,x.ym,x.nm,x.mm,upA x.a⟩ from S.ent _ (Zt.2 (.inl rfl))) S.c0;have be:¬csO cb om C wr.heap.size:=λh=>by
       have:=Br.lt a8.q wr.heap.size ((aV.o _).2 (.inr h));omega
      have aA:=V.heap be (D.heap b8);have bn:=cell_of_block aA 0 _ rfl;have bo:=cell_of_block aA 1 _ rfl;have bl:ax.cell? ⟨x.e,2,none⟩=some (.int .i64 (x.a.ticks+1)):=cell_of_block aj.blk 2 _ rfl;have bX:=Qb aA;have bZ:=Qb aj.blk;have bG:=Qb ah;have bz:=Zh aI;clear aZ S V ah aI aM aY bf aA D bg bh ai be;go_upto_region 17 with (fail);rw[<-bz.o];clear bB bA ay az bG;by_cases S:x.a.ticks+1<3
      ·have az:(x.a.ticks+1<3)=True:=eq_true S
       obtain⟨pk,K⟩:∃pk,pk=Qbc c.s.broker p.tid (upA x.a):=⟨_,rfl⟩;have bc:pk.length<=7:=by have ai:=Qt4 aj.o;rw[K,Qbc,List.length_map];exact ai
       have U:=Zh (show tickOne ((y,o),c) p=((y++pk,o),upB c p.tid x.a) by rw[tickOne];dsimp only;rw[aP.o];dsimp only;rw[if_pos S,K]);have D:=Qjt (A:=λ_=>False) c.s.broker p.tid _ aj (λ_ h=>h.elim) bs;dsimp only at D;rw[<-K]at D;have ah:=Zh D;clear D K;go_wp2_with fail;clear S;refine ah.mono ?_;rintro e bj ⟨po,pc,rfl,ak,aq⟩;have K:=Zh (av.bel aq);obtain⟨xs,W,X⟩:=srcPks ak.rd0 (λk=>False\/Qc v t k);obtain⟨ad,ae⟩:=Zh2 W X;clear ak aq W X bn bo bl;have bb:d<=34000:=by have:=s.2;omega
       go_wp2_with(at_builtin;go_must (refine Xe (r:=Xw) (A:=λ_=>False) (w0:=B) _ rfl _ _ 63 63 rfl Qhf v d t y s.1 K.ow rfl _ rfl pk xs ad.o ae.o (by omega) (by omega) K.w3 ?_);intro Z aa aN I H L;have V:=Zh (K.app I H L);clear I H L);go_roundw
       case rel=>exact⟨j+1,Z,aa,d+pk.length,y++pk,o,_,b5,by omega,by go_num,by rfl,rfl,Zh ⟨by rw[List.length_append,<-s.1],by have:=s.2;omega⟩,Zh (by rw[Y.o,U.o]),aQ,Zh (V.more (by omega))⟩
       case measure=>simp[intOf];omega
      ·have az:(x.a.ticks+1<3)=False:=eq_false S
       obtain⟨D,ah⟩:∃D,D=Wn (upB c p.tid x.a) p.tid false p.parts:=⟨_,rfl⟩;have bc:D.1.1.length<=7:=by rw[ah];exact Nat.le_trans (decX_len _ _ _ _) aK
       have ai:=Qhg (upB c p.tid x.a) av.q (av.lt aE.o) (by omega) p.tid bd p.parts ap ar b6.o (by omega);rw[<-ah]at ai;obtain⟨ay,ak,U⟩:=Zh3 ai (show oldK ((z:Int)-(j+1:Nat)) D.2.K from ah▸aQ.dec p.tid p.parts) (show tickOne ((y,o),c) p=((y++D.1.1,if (o==0)=true then D.1.2 else o),D.2) by rw[tickOne];dsimp only;rw[aP.o];dsimp only;rw[if_neg S,ah]);clear ai ah;go_wp2_with fail;clear S;refine ay.mono ?_;rintro e bj ⟨po,pc,rfl,aq⟩;obtain⟨ah,ai,S,-⟩:=av.turn aq;have K:=Zh ai;obtain⟨xs,W,X⟩:=srcPks S (λk=>False\/Qc v t k);obtain⟨ad,ae⟩:=Zh2 W X;clear aq ai S W X bn bo bl;have bb:d<=34000:=by have:=s.2;omega
       by_cases S:o=0
       ·have W:=Zh (show(if (o==0)=true then D.1.2 else o)=D.1.2 by rw[if_pos (by simpa using S)])
        subst S;go_wp2_with(at_builtin;go_must (refine Xe (r:=Xw) (A:=λ_=>False) (w0:=B) _ rfl _ _ 63 63 rfl Qhf v d t y s.1 K.ow rfl _ rfl D.1.1 xs ad.o ae.o (by omega) (by omega) K.w3 ?_);intro Z aa aN I H L;have V:=Zh (K.app I H L);clear I H L);go_roundw
        case rel=>exact⟨j+1,Z,aa,d+D.1.1.length,y++D.1.1,D.1.2,D.2,ah,by omega,by go_num,by rfl,rfl,Zh ⟨by rw[List.length_append,<-s.1],by have:=s.2;omega⟩,Zh (by rw[Y.o,U.o,W.o]),ak,V⟩
        case measure=>simp[intOf];omega
       ·have X:(o==0)=false:=by simpa using S
        have W:=Zh (show(if (o==0)=true then D.1.2 else o)=o by rw[if_neg (by simpa using S)]);clear S;go_wp2_with(at_builtin;go_must (refine Xe (r:=Xw) (A:=λ_=>False) (w0:=B) _ rfl _ _ 63 63 rfl Qhf v d t y s.1 K.ow rfl _ rfl D.1.1 xs ad.o ae.o (by omega) (by omega) K.w3 ?_);intro Z aa aN I H L;have V:=Zh (K.app I H L);clear I H L);go_roundw
        case rel=>exact⟨j+1,Z,aa,d+D.1.1.length,y++D.1.1,o,D.2,ah,by omega,by go_num,by rfl,rfl,Zh ⟨by rw[List.length_append,<-s.1],by have:=s.2;omega⟩,Zh (by rw[Y.o,U.o,W.o]),ak,V⟩
        case measure=>simp[intOf];omega
    ·obtain rfl:j=z:=by omega
     have D:=ab.o;rw[List.take_of_length_le (by rw[<-am.o];exact Nat.le_refl _),J.o,<-b0.o]at D;have H:=Zh D;clear D;go_wp2;go_ret2;refine⟨v,t,by rw[H.o,s.1];rfl,?_⟩;rw[H.o];have T:=a8.o;exact⟨ac,⟨Br.mono T.q (λj _ h=>h.imp .inl id) λj Q=>.inr Q,(Qxi T.ow).rdx λk R h=>h.elim (λh=>by
      obtain⟨_,_,_,G⟩:=T.ow;have:=G k R;have:=aE.o k h;have:=T.wl;omega) (T.ap k R)⟩,T.kk,T.nn⟩
end
end Go.Proofs.YtkdpmdfcdgphlaaGreat

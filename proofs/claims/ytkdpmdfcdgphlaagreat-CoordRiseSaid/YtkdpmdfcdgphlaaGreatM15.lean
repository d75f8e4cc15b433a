/- Part of this claim's proof. Conditions: as its theorems say. -/
import Derived.Test.YtkdpmdfcdgphlaaGreatM14
set_option linter.all false
set_option maxHeartbeats 4000000
set_option maxRecDepth 100000
namespace Go.Proofs.YtkdpmdfcdgphlaaGreat
open Tryz
open Go.RowKit Go.Mem Go.Po
theorem Re(s:St)(r:Rec)(O:Option Addr)(L:Nat)(R:Option Addr)(N:Nat)(F:Option Addr)(E:Nat)(Q:Option Addr)(M:Nat)(P:Option Addr)(sN:Nat)(rp:Option Addr)(H:Nat)(J:Option Addr)(I:Nat)(A:Nat->Prop)(w:World)(o:StR A w s O L R N F E Q M P sN)(ok:May s)(few:Few s)(m:i64 r.tid)(f:i64 r.id)(g:∀p∈r.puts,p.q.size<=maxLen)(c:Rd Qh A w rp H r.parts)(n:Rd Qw A w J I r.puts):
 Calls prog 105 #[.agg #[.int .i64 s.broker,.int .i64 s.nextId,.int .i64 s.nextSeq,.int .i64 s.tx,.slice O s.ms.length L,.slice R s.waits.length N,.slice F s.ends.length E,.slice Q s.opens.length M,.slice P s.noes.length sN],.agg #[.int .i64 r.kind,.int .i64 r.tid,.int .i64 r.id,.bool r.yes,.slice rp r.parts.length H,.slice J r.puts.length I]] w λe w'=>e=.returned (.int .i64 (Zf s r))/\Bel w w':=by
 obtain⟨ae,ah,af,au⟩:=Zh4 o ok c few;obtain⟨ad,b⟩:=Zx ((w.alloc (.cells #[.int .i64 s.broker,.int .i64 s.nextId,.int .i64 s.nextSeq,.int .i64 s.tx,.slice O s.ms.length L,.slice R s.waits.length N,.slice F s.ends.length E,.slice Q s.opens.length M,.slice P s.noes.length sN] 43)).alloc (.cells #[.int .i64 r.kind,.int .i64 r.tid,.int .i64 r.id,.bool r.yes,.slice rp r.parts.length H,.slice J r.puts.length I] 124));have j:Hid (Bel w ad):=Zh (by rw[b];exact((Bel.refl w).alloc _).alloc _);have l:ad.heap[w.heap.size]?=some (.cells #[.int .i64 s.broker,.int .i64 s.nextId,.int .i64 s.nextSeq,.int .i64 s.tx,.slice O s.ms.length L,.slice R s.waits.length N,.slice F s.ends.length E,.slice Q s.opens.length M,.slice P s.noes.length sN] 43 (0,0)):=by rw[b];exact((Bel.refl _).alloc _).heap (heap_alloc_new _ _)
 have h:ad.heap[w.heap.size+1]?=some (.cells #[.int .i64 r.kind,.int .i64 r.tid,.int .i64 r.id,.bool r.yes,.slice rp r.parts.length H,.slice J r.puts.length I] 124 (0,0)):=by
  rw[b];have:=heap_alloc_new (w.alloc (.cells #[.int .i64 s.broker,.int .i64 s.nextId,.int .i64 s.nextSeq,.int .i64 s.tx,.slice O s.ms.length L,.slice R s.waits.length N,.slice F s.ends.length E,.slice Q s.opens.length M,.slice P s.noes.length sN] 43)) (.cells #[.int .i64 r.kind,.int .i64 r.tid,.int .i64 r.id,.bool r.yes,.slice rp r.parts.length H,.slice J r.puts.length I] 124);simpa using this
 obtain⟨aq,S,ar⟩:=Zh3 l h b;have a:=J9 r rp H J I m f g A ad (c.bel j) (n.bel j);have ap:=Zh a;have d:=fun (W:World) (q:Bel w W)=>Sa A W F E s.ends (o.ends.bel q) (by have:=Qk ok.te;omega) (Ze ok.te) r.tid
 have av:=Zh d;clear o ok few m f g c n b l h a d;have y:=cell_of_block S 0 _ rfl;have q:=cell_of_block S 1 _ rfl;have z:=cell_of_block S 2 _ rfl;have B:=cell_of_block S 3 _ rfl;have C:=cell_of_block S 4 _ rfl;have D:=cell_of_block S 5 _ rfl;rcases c:Qp r with _|_
 ·have n:Zf s r=1:=by rw[Zf,if_pos c]
  have am:=Zh n;have a:=ap.o;rw[c]at a;have al:=Zh a;clear n a c;go_enter func105,ntmps105;go_wp2_with fail;rw[<-ar.o];refine al.zR λd b=>?_
  have f:=Zh (j.trans b);clear b y q z B C D;go_wp2;go_ret;rw[am.o];exact⟨rfl,f⟩
 ·have a:=ap
  rw[c]at a;obtain⟨al,G⟩:=Zh2 a c;have f:=Uf c;clear a c;go_enter func105,ntmps105;go_wp2_with fail;rw[<-ar.o];refine al.zR λd b=>?_
  have ao:=Zh b;have g:d.cell? ⟨w.heap.size,6,none⟩=some (.slice F s.ends.length E):=b.cell (cell_of_block aq.o 6 _ rfl);have a:d.cell? ⟨w.heap.size+1,1,none⟩=some (.int .i64 r.tid):=b.cell q;clear b y q z B C D;go_wp2_with fail;refine(av d (j.trans ao)).mono ?_;rw[show Qt (λx:Fin=>x.tid) r.tid s.ends=Dw s r.tid from rfl];rintro e K ⟨rfl,d⟩;have ak:=Zh (ao.trans d);have c:K.cell? ⟨w.heap.size+1,0,none⟩=some (.int .i64 r.kind):=ak.cell (cell_of_block S.o 0 _ rfl);clear d a g;by_cases b:Dw s r.tid=true/\r.kind≠9
  ·have n:Zf s r=9:=by rw[Zf,if_neg (by rw[G.o];simp),if_pos b]
   have am:=Zh n;obtain⟨aj,an⟩:=b;have ay:(r.kind !=9)=true:=by simpa using an
   clear n an f;go_wp2;go_ret;rw[am.o];exact⟨rfl,j.trans ak⟩
  ·have ac:=Zh b
   have a9:∀a w,(callFunc 183 a).run prog w=.ok (.enter 183 a) w:=enters_of func183 (by kernel_rfl) rfl;have aA:∀a w,(callFunc 184 a).run prog w=.ok (.enter 184 a) w:=enters_of func184 (by kernel_rfl) rfl;have aB:∀a w,(callFunc 185 a).run prog w=.ok (.enter 185 a) w:=enters_of func185 (by kernel_rfl) rfl;have aC:∀a w,(callFunc 186 a).run prog w=.ok (.enter 186 a) w:=enters_of func186 (by kernel_rfl) rfl;have aD:∀(w:World),(Instr.index 255 (.agg #[.func (.func 183) #[] #[],.func (.func 184) #[] #[],.func (.func 185) #[] #[],.func (.func 186) #[] #[]]) (.int .i64 0)).run prog w=.ok (.func (.func 183) #[] #[]) w:=λw=>by kernel_rfl
   have aE:∀(w:World),(Instr.index 255 (.agg #[.func (.func 183) #[] #[],.func (.func 184) #[] #[],.func (.func 185) #[] #[],.func (.func 186) #[] #[]]) (.int .i64 1)).run prog w=.ok (.func (.func 184) #[] #[]) w:=λw=>by kernel_rfl
   have aF:∀(w:World),(Instr.index 255 (.agg #[.func (.func 183) #[] #[],.func (.func 184) #[] #[],.func (.func 185) #[] #[],.func (.func 186) #[] #[]]) (.int .i64 2)).run prog w=.ok (.func (.func 185) #[] #[]) w:=λw=>by kernel_rfl
   have aG:∀(w:World),(Instr.index 255 (.agg #[.func (.func 183) #[] #[],.func (.func 184) #[] #[],.func (.func 185) #[] #[],.func (.func 186) #[] #[]]) (.int .i64 3)).run prog w=.ok (.func (.func 186) #[] #[]) w:=λw=>by kernel_rfl
   go_upto_region 4 with (fail);go_cut[26] from 5 to 26 (λt a=>t=.bool false/\Hid (a=K))
   case first=>
    by_cases aj:Dw s r.tid=true
    case neg=>
     have an:Dw s r.tid=false:=by simpa using aj
     clear b aj;go_wp2;go_meet;exact⟨rfl,Zh rfl⟩
    case pos=>
     have ay:(r.kind !=9)=false:=by
      have a:r.kind=9:=Classical.byContradiction λo=>b ⟨aj,o⟩
      rw[a];rfl
     clear b;go_wp2;go_meet;exact⟨rfl,Zh rfl⟩
   case rest=>
   obtain⟨rfl,a8⟩:=hcut;have az:=a8.o;subst az;go_wp2;go_loopw[8,9,28] (λ_ _ i wr=>∃k:Int,(0<=k/\k<=4)/\i=.int .i64 k/\Hid (1<=k->J3 s r=false)/\Hid (2<=k->Zy s r=false)/\Hid (3<=k->Kc s r=false)/\Hid (4<=k->Jf s r=false)/\Hid (Bel ad wr)) (λ_ _ i _=>4-(intOf i).toNat)
   case atStart=>exact⟨0,⟨by omega,by omega⟩,rfl,Zh λo=>absurd o (by omega),Zh λo=>absurd o (by omega),Zh λo=>absurd o (by omega),Zh λo=>absurd o (by omega),ak⟩
   case round=>
    clear c b;obtain⟨k,aH,rfl,v,ab,ai,aw,h⟩:=hrel;have a:=h.heap aq;have b:=h.heap S;have s0:=cell_of_block a 0 _ rfl;have T:=cell_of_block a 1 _ rfl;have U:=cell_of_block a 2 _ rfl;have V:=cell_of_block a 3 _ rfl;have W:=cell_of_block a 4 _ rfl;have X:=cell_of_block a 5 _ rfl;have Y:=cell_of_block a 6 _ rfl;have Z:=cell_of_block a 7 _ rfl;have aa:=cell_of_block a 8 _ rfl;have y:=cell_of_block b 0 _ rfl;have q:=cell_of_block b 1 _ rfl;have z:=cell_of_block b 2 _ rfl;have B:=cell_of_block b 3 _ rfl;have C:=cell_of_block b 4 _ rfl;have D:=cell_of_block b 5 _ rfl;clear a b;rcases (show k=0\/k=1\/k=2\/k=3\/k=4 by omega)with rfl|rfl|rfl|rfl|rfl
    ·have b:=Qtx s r O L R N F E Q M P sN rp H J I A wr (ae.bel (j.trans h)) ah (af.bel (j.trans h)) G
     rcases c:J3 s r with _|_
     ·have f:(if J3 s r=true then (6:Int) else 0)=0:=by rw[c];rfl
      rw[f]at b;obtain⟨m,g⟩:=Zh2 b c;clear b f c;go_wp2_with fail;refine m.zR λK d=>?_
      have l:=Zh (h.trans d);clear d s0 T U V W X Y Z aa y q z B C D;go_wp2;go_roundw
      case rel=>exact⟨1,⟨by omega,by omega⟩,rfl,Zh (by first|trivial|(intro a;first|exact absurd a (by omega)|exact g.o)|exact g.o),Zh (by first|trivial|(intro a;exact absurd a (by omega))),Zh (by first|trivial|(intro a;exact absurd a (by omega))),Zh (by first|trivial|(intro a;exact absurd a (by omega))),l⟩
      case measure=>simp[intOf]
     ·have f:(if J3 s r=true then (6:Int) else 0)=6:=by rw[c];rfl
      rw[f]at b;obtain⟨m,g⟩:=Zh2 b c;clear b f c;go_wp2_with fail;refine m.zR λK d=>?_
      have l:=Zh (h.trans d);clear d s0 T U V W X Y Z aa y q z B C D;go_wp2;go_ret;have n:Zf s r=6:=by rw[Zf,if_neg (by rw[G.o];simp),if_neg ac.o,if_pos g.o]
      rw[n];exact⟨rfl,j.trans l⟩
    ·have b:=Qrc s r O L R N F E Q M P sN rp H J I A wr (ae.bel (j.trans h)) ah (af.bel (j.trans h)) G
     rcases c:Zy s r with _|_
     ·have f:(if Zy s r=true then (12:Int) else 0)=0:=by rw[c];rfl
      rw[f]at b;obtain⟨m,g⟩:=Zh2 b c;clear b f c;go_wp2_with fail;refine m.zR λK d=>?_
      have l:=Zh (h.trans d);clear d s0 T U V W X Y Z aa y q z B C D;go_wp2;go_roundw
      case rel=>exact⟨2,⟨by omega,by omega⟩,rfl,Zh (by first|trivial|(intro a;first|exact absurd a (by omega)|exact v.o (by omega))|exact v.o (by omega)),Zh (by first|trivial|(intro a;first|exact absurd a (by omega)|exact g.o)|exact g.o),Zh (by first|trivial|(intro a;exact absurd a (by omega))),Zh (by first|trivial|(intro a;exact absurd a (by omega))),l⟩
      case measure=>simp[intOf]
     ·have f:(if Zy s r=true then (12:Int) else 0)=12:=by rw[c];rfl
      rw[f]at b;obtain⟨m,g⟩:=Zh2 b c;clear b f c;go_wp2_with fail;refine m.zR λK d=>?_
      have l:=Zh (h.trans d);clear d s0 T U V W X Y Z aa y q z B C D;go_wp2;go_ret;have n:Zf s r=12:=by rw[Zf,if_neg (by rw[G.o];simp),if_neg ac.o,if_neg (by rw[v.o (by omega)];simp),if_pos g.o]
      rw[n];exact⟨rfl,j.trans l⟩
    ·have b:=Qty s r O L R N F E Q M P sN rp H J I A wr (ae.bel (j.trans h.o)) ah.o (λax=>by have:=v.o (by omega);simp only[J3,ax]at this;simpa using this) (af.bel (j.trans h.o)) G.o
     rcases c:Kc s r with _|_
     ·have f:(if Kc s r=true then (8:Int) else 0)=0:=by rw[c];rfl
      rw[f]at b;obtain⟨m,g⟩:=Zh2 b c;clear b f c;go_wp2_with fail;refine m.zR λK d=>?_
      have l:=Zh (h.trans d);clear d s0 T U V W X Y Z aa y q z B C D;go_wp2;go_roundw
      case rel=>exact⟨3,⟨by omega,by omega⟩,rfl,Zh (by first|trivial|(intro a;first|exact absurd a (by omega)|exact v.o (by omega))|exact v.o (by omega)),Zh (by first|trivial|(intro a;first|exact absurd a (by omega)|exact ab.o (by omega))|exact ab.o (by omega)),Zh (by first|trivial|(intro a;first|exact absurd a (by omega)|exact g.o)|exact g.o),Zh (by first|trivial|(intro a;exact absurd a (by omega))),l⟩
      case measure=>simp[intOf]
     ·have f:(if Kc s r=true then (8:Int) else 0)=8:=by rw[c];rfl
      rw[f]at b;obtain⟨m,g⟩:=Zh2 b c;clear b f c;go_wp2_with fail;refine m.zR λK d=>?_
      have l:=Zh (h.trans d);clear d s0 T U V W X Y Z aa y q z B C D;go_wp2;go_ret;have n:Zf s r=8:=by rw[Zf,if_neg (by rw[G.o];simp),if_neg ac.o,if_neg (by rw[v.o (by omega)];simp),if_neg (by rw[ab.o (by omega)];simp),if_pos g.o]
      rw[n];exact⟨rfl,j.trans l⟩
    ·have b:=Qtz s r O L R N F E Q M P sN rp H J I A wr (ae.bel (j.trans h)) ah au (af.bel (j.trans h)) G
     rcases c:Jf s r with _|_
     ·have f:(if Jf s r=true then (5:Int) else 0)=0:=by rw[c];rfl
      rw[f]at b;obtain⟨m,g⟩:=Zh2 b c;clear b f c;go_wp2_with fail;refine m.zR λK d=>?_
      have l:=Zh (h.trans d);clear d s0 T U V W X Y Z aa y q z B C D;go_wp2;go_roundw
      case rel=>exact⟨4,⟨by omega,by omega⟩,rfl,Zh (by first|trivial|(intro a;first|exact absurd a (by omega)|exact v.o (by omega))|exact v.o (by omega)),Zh (by first|trivial|(intro a;first|exact absurd a (by omega)|exact ab.o (by omega))|exact ab.o (by omega)),Zh (by first|trivial|(intro a;first|exact absurd a (by omega)|exact ai.o (by omega))|exact ai.o (by omega)),Zh (by first|trivial|(intro a;first|exact absurd a (by omega)|exact g.o)|exact g.o),l⟩
      case measure=>simp[intOf]
     ·have f:(if Jf s r=true then (5:Int) else 0)=5:=by rw[c];rfl
      rw[f]at b;obtain⟨m,g⟩:=Zh2 b c;clear b f c;go_wp2_with fail;refine m.zR λK d=>?_
      have l:=Zh (h.trans d);clear d s0 T U V W X Y Z aa y q z B C D;go_wp2;go_ret;have n:Zf s r=5:=by rw[Zf,if_neg (by rw[G.o];simp),if_neg ac.o,if_neg (by rw[v.o (by omega)];simp),if_neg (by rw[ab.o (by omega)];simp),if_neg (by rw[ai.o (by omega)];simp),if_pos g.o]
      rw[n];exact⟨rfl,j.trans l⟩
    ·go_wp2
     go_ret;have n:Zf s r=0:=by rw[Zf,if_neg (by rw[G.o];simp),if_neg ac.o,if_neg (by rw[v.o (by omega)];simp),if_neg (by rw[ab.o (by omega)];simp),if_neg (by rw[ai.o (by omega)];simp),if_neg (by rw[aw.o (by omega)];simp)]
     rw[n];exact⟨rfl,j.trans h⟩
end Go.Proofs.YtkdpmdfcdgphlaaGreat
namespace Go.Po
def Ki(l:List Qv)(t:Int)(parts:List Int):List Qv:=l.take (Z5 (λx=>x.tid) t l)++[⟨t,parts⟩]++l.drop (Z5 (λx=>x.tid) t l)
def Xp(l:List Qv)(t:Int):List Qv:=l.filter λp=>!(p.tid==t)
theorem Np(l:List Qv)(t:Int)(a:List Int):(Ki l t a).length=l.length+1:=by
 have:=Vm (λx:Qv=>x.tid) t l;simp only[Ki,List.length_append,List.length_take,List.length_drop,List.length_singleton];omega
theorem Dv(l:List Qv)(t:Int):(Xp l t).length<=l.length:=List.length_filter_le _ _
def Wh(m:Msg):Msg:=⟨m.id,m.q,m.b,m.seq,min (m.cnt+1) 1000,0⟩
def J4(t:Int)(yes:Bool)(m:Msg):List Msg:=if m.who=t then (if yes=true then [] else [Wh m]) else [m]
def Kb(b:Int):Int->Int->List Put->List Msg
 | _,_,[]=>[]
 | i,q,p::r=>⟨mk b i,p.q,p.b,q,0,0⟩::Kb b (i+1) (q+1) r
theorem Qep(b:Int)(p:Put):∀(l:List Put) (i q:Int),Kb b i q (l++[p])=Kb b i q l++[⟨mk b (i+l.length),p.q,p.b,q+l.length,0,0⟩]
 | [],i,q=>by simp[Kb]
 | x::l,i,q=>by
  have:=Qep b p l (i+1) (q+1);simp only[List.cons_append,Kb,this,List.length_cons];rw[show i+1+(l.length:Int)=i+((l.length+1:Nat):Int) by omega,show q+1+(l.length:Int)=q+((l.length+1:Nat):Int) by omega]
def Jq(yes:Bool)(puts:List Put):List Put:=if yes=true then puts else []
def Cc(l:List Fin)(t:Int)(yes:Bool):List Fin:=l.take (Z5 (λx=>x.tid) t l)++[⟨t,yes⟩]++l.drop (Z5 (λx=>x.tid) t l)
def Qr(s:St)(t:Int)(yes:Bool)(puts:List Put):St:=
 ⟨s.broker,s.nextId+(Jq yes puts).length,s.nextSeq+(Jq yes puts).length,s.tx,s.ms.flatMap (J4 t yes)++Kb s.broker s.nextId s.nextSeq (Jq yes puts),s.waits.filter (λb=>!(b.tid==t)),Cc s.ends t yes,Xp s.opens t,s.noes⟩
theorem Gw(b:Int):∀(l:List Put) (i q:Int),(Kb b i q l).length=l.length
 | [],_,_=>rfl
 | x::l,i,q=>by simp[Kb,Gw b l]
theorem Qds(t:Int)(a:Bool)(l:List Msg):(l.flatMap (J4 t a)).length<=l.length:=by
 induction l with
 | nil=>simp
 | cons m l ih=>
  have:(J4 t a m).length<=1:=by unfold J4;split<;>(try split)<;>simp
  simp only[List.flatMap_cons,List.length_append,List.length_cons];omega
end Go.Po
namespace Go.Proofs.YtkdpmdfcdgphlaaGreat
open Tryz
open Go.RowKit Go.Mem Go.Po
theorem Qdt(l:List Qv)(a:Int)(b:List Int)(A:Nat->Prop)(w:World)(o:∀k,A k->k<w.heap.size)(q:Option Addr)(p:Nat)(h:Rd Z4 A w q p l)(D:l.length<=100000)(s:Jv (λx=>x.tid) l)(po:Option Addr)(pc:Nat)(r:Rd Qh A w po pc b)(W:b.length<=100000):
 Calls prog 286 #[.slice q l.length p,.int .i64 a,.slice po b.length pc] w λe w'=>∃ao cap,e=.returned (.slice ao (Ki l a b).length cap)/\Own Z4 A w w' 134 ao cap (Ki l a b)/\Bel w w':=by
 obtain⟨I,M,J⟩:=Zh3 h r o;have d:=Y4 A w q p l h (by omega) s a;have N:=Zh d;obtain⟨n,g⟩:=Zx l.length;obtain⟨m,j⟩:=Zx b.length;have F:=Vm (λx:Qv=>x.tid) a l;obtain⟨i,f⟩:=Zx (Z5 (λx:Qv=>x.tid) a l);obtain⟨O,P⟩:=Zh2 (show Ki l a b=l.take i++[⟨a,b⟩]++l.drop i by rw[f];rfl) (Np l a b);rw[<-f,<-g]at F;rw[<-g]at D ⊢;rw[<-j]at W ⊢;obtain⟨c,t,L⟩:=Zh3 g j f;clear h r o d s g j f;go_enter func286,ntmps286;go_wp2_with fail;have d:=N.o;rw[<-c.o,<-L.o]at d;refine d.zR λy g=>?_
 have f:=Zh g;clear d g;go_wp2_with fail;have j:=H5 A y q p l (I.bel f.o) (by have:=c.o;omega);rw[<-c.o]at j;refine j.mono ?_;rintro e G ⟨⟨ao,cap,rfl,o⟩,g⟩;obtain⟨d,H,z⟩:=Zh3 o (f.trans g) g;clear j o g;go_wp2_with fail;have V:Hid (∀k,Qc ao cap k->y.heap.size<=k):=Zh (by obtain⟨_,_,_,S⟩:=d.o;exact S);have E:Rd Qh (λk=>A k\/Qc ao cap k) G po pc b:=((M.bel f.o).mono (λk g h=>h.elim id λh=>by have:=V.o k h;omega)).bel z.o;have g:=Qbb (λk=>A k\/Qc ao cap k) G po pc b E (by have:=t.o;omega);rw[<-t.o]at g;refine g.mono ?_;rintro e r ⟨⟨o,j,rfl,B⟩,v⟩;have C:=B.rd (λk h=>h.elim (λh=>Nat.lt_of_lt_of_le (J k h) H.size) λh=>d.lt h);obtain⟨K,s⟩:=Zh2 C v;clear g B C E v;go_wp2_with fail;have g:Bel r (r.alloc (.cells #[.int .i64 a,.slice o m j] 134)):=(Bel.refl _).alloc _;have v:=Qm9 A y (r.alloc (.cells #[.int .i64 a,.slice o m j] 134)) ao cap l ((d.bel s.o).bel g) (z.trans (s.trans g)) (by rw[<-c.o];exact D) i (by rw[<-c.o];exact F) ⟨a,b⟩ r.heap.size (.int .i64 a) (.slice o m j)
  (show Z4.R _ _ _ _ from⟨o,j,by rw[t.o],K.bel g⟩) (heap_alloc_new _ _) (λh=>by have:=d.lt h;have:=s.size;omega)
 rw[<-c.o,<-O.o]at v;refine v.mono ?_;rintro e X ⟨Q,R,rfl,B,T,y,U⟩;obtain⟨E,C⟩:=Zh2 B (f.trans y);clear v g B T y U;go_wp2;go_ret;rw[P.o,<-c.o];obtain⟨xs,g,v,y⟩:=E.o;exact⟨Q,R,rfl,⟨xs,g,v,λk h=>Nat.le_trans f.size (y k h)⟩,C⟩
theorem Qeq(x:Qv)(ao:Option Addr)(cap:Nat)(t:Int)(b:Nat)(W:World)(c:W.cell? ⟨b,0,none⟩=some (.int .i64 t)):Calls prog 345 (#[.agg #[.int .i64 x.tid,.slice ao x.parts.length cap]]++#[.pointer (some ⟨b,0,none⟩)]) W λe a=>e=.returned (.bool (x.tid==t))/\Bel W a:=by
 have a:=Zd c;show Calls prog 345 #[.agg #[.int .i64 x.tid,.slice ao x.parts.length cap],.pointer (some ⟨b,0,none⟩)] W _;go_enter func345,ntmps345;go_wp2;go_ret;exact⟨rfl,(Bel.refl W).alloc _⟩
theorem Qge:∀a w,(callFunc 345 a).run prog w=.ok (.enter 345 a) w:=enters_of func345 (by kernel_rfl) rfl
theorem Qmt(x:Branch)(ao:Option Addr)(cap:Nat)(t:Int)(b:Nat)(W:World)(c:W.cell? ⟨b,0,none⟩=some (.int .i64 t)):Calls prog 340 (#[.agg #[.int .i64 x.tid,.slice ao x.puts.length cap]]++#[.pointer (some ⟨b,0,none⟩)]) W λe a=>e=.returned (.bool (x.tid==t))/\Bel W a:=by
 have a:=Zd c;show Calls prog 340 #[.agg #[.int .i64 x.tid,.slice ao x.puts.length cap],.pointer (some ⟨b,0,none⟩)] W _;go_enter func340,ntmps340;go_wp2;go_ret;exact⟨rfl,(Bel.refl W).alloc _⟩
theorem Qo6:∀a w,(callFunc 340 a).run prog w=.ok (.enter 340 a) w:=enters_of func340 (by kernel_rfl) rfl
theorem Qc0(l:List Qv)(a:Int)(A:Nat->Prop)(w:World)(m:Option Addr)(j:Nat)(h:Rd Z4 A w m j l)(o:l.length<=100000):
 Calls prog 288 #[.slice m l.length j,.int .i64 a] w λe w'=>∃ao cap,e=.returned (.slice ao (Xp l a).length cap)/\Own Z4 A w w' 134 ao cap (Xp l a)/\Bel w w':=by
 have H:=Zh h;obtain⟨n,c⟩:=Zx l.length;rw[<-c]at o ⊢;have b:=Zh c;have y:=Qge;clear h c;go_enter func288,ntmps288;go_wp2_with fail;have c:Bel w (w.alloc (.cells #[.int .i64 a] 2)):=(Bel.refl _).alloc _;have f:=H5 A _ m j l (H.bel c) (by have:=b.o;omega);rw[<-b.o]at f;refine f.mono ?_;rintro e q ⟨⟨ao,cap,rfl,i⟩,d⟩;have c0:q.cell? ⟨w.heap.size,0,none⟩=some (.int .i64 a):=d.cell (by go_simp);have g:Hid (∀k,Qc ao cap k->w.heap.size+1<=k):=Zh (by obtain⟨_,_,_,z⟩:=i;simpa using z);obtain⟨t,r,s⟩:=Zh3 i (c.trans d) c0;clear f i d c c0;go_wp2_with fail;have c:=Qm4 (λp=>p.tid==a) 345 #[.pointer (some ⟨w.heap.size,0,none⟩)] y A _ q ao cap l t.o (by rw[<-b.o];exact o)
  (λx W d f _ i _=>Qeq x d f a _ W (i.cell (λh=>by have:=g.o _ h;dsimp only at this;omega) s.o))
 rw[<-b.o]at c;refine c.mono ?_;rintro e B ⟨rfl,f,d⟩;obtain⟨i,v⟩:=Zh2 f d;clear c f d;go_wp2;go_ret;obtain⟨xs,c,d,f⟩:=i.o;exact⟨ao,cap,rfl,⟨xs,c,d,λk h=>by have:=g.o k h;omega⟩,r.of_kept v.o λk h=>by have:=g.o k h;omega⟩
theorem Vb{A S:Nat->Prop}{w0 w w':World}{e:TypeId}{ao:Option Addr}{cap:Nat}{l:List Fin}(h:Own J7 A w0 w e ao cap l)(d:Kept S w w')(f:∀k,Qc ao cap k->¬S k):Own J7 A w0 w' e ao cap l:=by
 obtain⟨xs,a,b,c⟩:=h;exact⟨xs,a.mono λ_ _ _ h=>h,b.kept d f,c⟩
theorem Xu(w:World)(g:Nat)(a b c d e f h i j:Value):Kept (λk=>k=g) w (((((((((w.setCell ⟨g,0,none⟩ a).setCell ⟨g,1,none⟩ b).setCell ⟨g,2,none⟩ c).setCell ⟨g,3,none⟩ d).setCell ⟨g,4,none⟩ e).setCell ⟨g,5,none⟩ f).setCell ⟨g,6,none⟩ h).setCell ⟨g,7,none⟩ i).setCell ⟨g,8,none⟩ j):=
 (((Kept.set6 w g a b c d e f).setCell (p:=⟨g,6,none⟩) rfl _).setCell (p:=⟨g,7,none⟩) rfl _).setCell (p:=⟨g,8,none⟩) rfl _
def R4(x:Msg):List Value:=[.int .i64 x.id,.string x.q,.string x.b,.int .i64 x.seq,.int .i64 x.cnt,.int .i64 x.who]
theorem Qyf(w:World){b:Nat}{x:Msg}{T:TypeId}{c:Nat×Nat}(h:w.heap[b]?=some (.cells #[.int .i64 x.id,.string x.q,.string x.b,.int .i64 x.seq,.int .i64 x.cnt,.int .i64 x.who] T c)):Src prog 6 38 (.slice (some ⟨b,0,none⟩) 1 1) 1 (R4 x) w:=
 Src.ofSlice w underlying38 ⟨b,0,none⟩ 1 1 (R4 x) rfl (λj d a=>by
  have:=cell_of_block h j d (by simpa[R4] using a);rw[Addr.add_lit,Nat.zero_add];exact this) (λv a=>by simp only[R4,List.mem_cons,List.not_mem_nil,or_false]at a;rcases a with rfl|rfl|rfl|rfl|rfl|rfl<;>rfl)
structure MsL(N:Nat)(w:World)(ao:Option Addr)(cap:Nat)(L:List Msg):Prop where
 sl:Sl w 47 6 ao L.length cap (L.flatMap R4)
 new:∀k,Qc ao cap k->N<=k
theorem MsL.kept{N:Nat}{w w':World}{ao:Option Addr}{cap:Nat}{L:List Msg}(h:MsL N w ao cap L){S:Nat->Prop}(b:Kept S w w')(d:∀k,S k->k<N):MsL N w' ao cap L:=
 ⟨h.sl.kept b λk c a=>by have:=h.new k c;have:=d k a;omega,h.new⟩
theorem MsL.kept'{N:Nat}{w w':World}{ao:Option Addr}{cap:Nat}{L:List Msg}(h:MsL N w ao cap L){S:Nat->Prop}(a:Kept S w w')(b:∀k,Qc ao cap k->¬S k):MsL N w' ao cap L:=⟨h.sl.kept a b,h.new⟩
theorem MsL.bel{N:Nat}{w w':World}{ao:Option Addr}{cap:Nat}{L:List Msg}(h:MsL N w ao cap L)(a:Bel w w'):MsL N w' ao cap L:=h.kept (a.kept λ_=>False) λ_ h=>h.elim
theorem MsL.nil(N:Nat)(w:World):MsL N w none 0 []:=⟨Sl.nil w _ _,λ_ h=>absurd h.1 (by omega)⟩
theorem Bt{N:Nat}(w:World){e:Array Oper}{f:List Oper}{o:Oper}{a:Act}{Q:Exit->Act->World->Prop}(q:o.guard=none)(s x:Operand)
 (v:o.op=.call { callee:=.builtin .append,args:=#[s,x],argTypes:=#[38,38] }) (ao:Option Addr) (cap:Nat) (L:List Msg) (h:MsL N w ao cap L) (n:Nat) (t:n=L.length) (m:a.eval s=.slice ao n cap) (b:Nat) (y:Msg) (p:a.eval x=.slice (some ⟨b,0,none⟩) 1 1)
 {T:TypeId} {g:Nat×Nat} (z:w.heap[b]?=some (.cells #[.int .i64 y.id,.string y.q,.string y.b,.int .i64 y.seq,.int .i64 y.cnt,.int .i64 y.who] T g)) (j:L.length<=100000) (i:N<=w.heap.size)
 (l:∀c d w',MsL N w' c d (L++[y])->Kept (λk=>N<=k) w w'->wpList prog e Q f (a.put o.dst (.slice c (n+1) d)) w'):
 wpList prog e Q (o::f) a w:=by
 obtain⟨E,F,r,A,B,C,D⟩:=(Qji).hi;subst t;refine Vf w q s x 38 38 v 47 E F 6 64 underlying38 r A B C D ao L.length cap (L.flatMap R4) h.sl m _ p 1 (R4 y) (Qyf w z) (by simp only[maxLen];omega) (by omega) λc d w' g i j=>?_
 refine l c d w' ⟨?_,λk c=>(j k c).elim (h.new k) λh=>by omega⟩ (i.mono λk _ c=>h.new k c);rw[List.flatMap_append,List.length_append];simpa using g
theorem MsL.rd{N:Nat}{w:World}{ao:Option Addr}{cap:Nat}{L:List Msg}(h:MsL N w ao cap L)(A:Nat->Prop)(a:∀k,A k->k<N):Rd Xy A w ao cap L:=
 ⟨L.flatMap R4,Ch.flat (f:=R4) (size:=6) (λ_=>rfl) L,h.sl.sr λk c b=>by have:=h.new k c;have:=a k b;omega⟩
end Go.Proofs.YtkdpmdfcdgphlaaGreat

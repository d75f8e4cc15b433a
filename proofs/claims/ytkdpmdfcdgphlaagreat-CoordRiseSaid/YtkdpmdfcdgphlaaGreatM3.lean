/- Part of this claim's proof. Conditions: as its theorems say. -/
import Derived.Deep.DeepCutAuto
import Derived.Deep.CutBlock
import Derived.Shelf.Abstract
import Derived.Test.YtkdpmdfcdgphlaaGreatM2
set_option linter.all false
set_option maxHeartbeats 3000000
set_option maxRecDepth 100000
namespace Go.Proofs.YtkdpmdfcdgphlaaGreat
open Tryz
open Go.RowKit Go.Mem Go.Po
theorem Qak(r:Rec)(rp:Option Addr)(rP:Nat)(rq:Option Addr)(rQ:Nat)(ht:i64 r.tid)(w:World)(h:r.kind<1\/9<r.kind\/Zw r.tid=false):
 Calls prog 181 #[.agg #[.int .i64 r.kind,.int .i64 r.tid,.int .i64 r.id,.bool r.yes,.slice rp r.parts.length rP,.slice rq r.puts.length rQ]] w λe w'=>e=.returned (.bool (Qp r))/\Bel w w':=by
 have E:=Zh (show Qp r=false by
  rcases h with h|h|h
  ·simp[Qp,show ¬1<=r.kind by omega]
  ·simp[Qp,show ¬r.kind<=9 by omega]
  ·simp[Qp,h])
 by_cases h1:r.kind<1
 ·clear h
  go_enter func181,ntmps181;go_wp2;go_ret;exact⟨by rw[E.o];rfl,(Bel.refl w).alloc _⟩
 ·by_cases h2:9<r.kind
  ·clear h
   go_enter func181,ntmps181;go_wp2;go_ret;exact⟨by rw[E.o];rfl,(Bel.refl w).alloc _⟩
  ·have h3:Zw r.tid=false:=by
    rcases h with h|h|h
    ·exact absurd h h1
    ·exact absurd h h2
    ·exact h
   have H3:=Zh h3;clear h h3;go_enter func181,ntmps181;go_wp2_with fail;refine(Wq r.tid ht _).mono ?_;rw[H3.o];rintro e w1 ⟨rfl,rfl⟩;go_wp2;go_ret;exact⟨by rw[E.o];rfl,(Bel.refl w).alloc _⟩
theorem Qiq:∀args w,(callFunc 266 args).run prog w=.ok (.enter 266 args) w:=enters_of func266 (by kernel_rfl) rfl
theorem Qsm(r:Rec)(rp:Option Addr)(rP:Nat)(rq:Option Addr)(rQ:Nat)(ht:i64 r.tid)(hi:i64 r.id)(hq:∀p∈r.puts,p.q.size<=maxLen)(A:Nat->Prop)(w:World)(hp:Rd Qh A w rp rP r.parts)(hu:Rd Qw A w rq rQ r.puts)(h1:1<=r.kind)(h2:r.kind<=9)(h3:Zw r.tid=true):
 Calls prog 181 #[.agg #[.int .i64 r.kind,.int .i64 r.tid,.int .i64 r.id,.bool r.yes,.slice rp r.parts.length rP,.slice rq r.puts.length rQ]] w λe w'=>e=.returned (.bool (Qp r))/\Bel w w':=by
 obtain⟨H3,HP,HU,HQ⟩:=Zh4 h3 hp hu hq;have hps:=hp.small;have hus:=hu.small;have E:=Zh (show Qp r=(Mr r&&Gi r&&Xq r.parts (F3 r.kind) (Wp r.kind)&&decide ((r.puts.length:Int)<=Jw r.kind)&&!(r.puts.any λp=>!Jg p)) by
  simp only[Qp,h1,h2,h3,decide_true,Bool.true_and];rw[show r.puts.all Jg=!(r.puts.any λp=>!Jg p) by simp[List.all_eq_not_any_not]])
 clear h3 hp hu hq;go_enter func181,ntmps181;go_wp2_with fail;refine(Wq r.tid ht _).mono ?_;rw[H3.o];rintro e w1 ⟨rfl,rfl⟩;go_wp2;go_quiet (fail)
 go_upto_block 0 with fail;go_cut[3,4,5,6,7] (λs3 s4 s5 s6 s7 wx=>s3=.bool (Mr r)/\s4=.bool (Gi r)/\s5=.int .i64 (F3 r.kind)/\s6=.int .i64 (Wp r.kind)/\s7=.int .i64 (Jw r.kind)/\wx.cell? ⟨w.heap.size,4,none⟩=some (.slice rp r.parts.length rP)/\wx.cell? ⟨w.heap.size,5,none⟩=some (.slice rq r.puts.length rQ)/\Hid (Bel w wx))
 case first=>
  have hk:r.kind=2\/r.kind=5\/r.kind=4\/r.kind=7\/r.kind=6\/r.kind=8\/r.kind=9\/r.kind=1\/r.kind=3:=by omega
  rcases hk with hk|hk|hk|hk|hk|hk|hk|hk|hk;all_goals
   have HK:=Zh hk;first|(have e2:(r.kind==2)=true:=by rw[hk];rfl)|(have e2:(r.kind==2)=false:=by rw[hk];rfl)
   first
    | (clear hk
       go_wp2_with fail;refine(Wq r.id hi _).mono ?_;rintro e w1 ⟨rfl,rfl⟩)
    | (have e5:(r.kind==5)=true:=by rw[hk];rfl
       clear hk)
    | (have e5:(r.kind==5)=false:=by rw[hk];rfl
       have e4:(r.kind==4)=true:=by rw[hk];rfl
       clear hk)
    | (have e5:(r.kind==5)=false:=by rw[hk];rfl
       have e4:(r.kind==4)=false:=by rw[hk];rfl
       have e7:(r.kind==7)=true:=by rw[hk];rfl
       clear hk)
    | (have e5:(r.kind==5)=false:=by rw[hk];rfl
       have e4:(r.kind==4)=false:=by rw[hk];rfl
       have e7:(r.kind==7)=false:=by rw[hk];rfl
       have e6:(r.kind==6)=true:=by rw[hk];rfl
       clear hk)
    | (have e5:(r.kind==5)=false:=by rw[hk];rfl
       have e4:(r.kind==4)=false:=by rw[hk];rfl
       have e7:(r.kind==7)=false:=by rw[hk];rfl
       have e6:(r.kind==6)=false:=by rw[hk];rfl
       have e8:(r.kind==8)=true:=by rw[hk];rfl
       clear hk)
    | (have e5:(r.kind==5)=false:=by rw[hk];rfl
       have e4:(r.kind==4)=false:=by rw[hk];rfl
       have e7:(r.kind==7)=false:=by rw[hk];rfl
       have e6:(r.kind==6)=false:=by rw[hk];rfl
       have e8:(r.kind==8)=false:=by rw[hk];rfl
       have e9:(r.kind==9)=true:=by rw[hk];rfl
       clear hk)
    | (have e5:(r.kind==5)=false:=by rw[hk];rfl
       have e4:(r.kind==4)=false:=by rw[hk];rfl
       have e7:(r.kind==7)=false:=by rw[hk];rfl
       have e6:(r.kind==6)=false:=by rw[hk];rfl
       have e8:(r.kind==8)=false:=by rw[hk];rfl
       have e9:(r.kind==9)=false:=by rw[hk];rfl
       clear hk)
   go_wp2;go_meet;have hk:=HK.o;exact⟨by simp[Mr,hk],by simp[Gi,hk],by simp[F3,hk],by simp[Wp,hk],by simp[Jw,hk],by simp,by simp,Zh (((Bel.refl w).alloc _).drewN _)⟩
 case rest=>
  obtain⟨rfl,rfl,rfl,rfl,rfl,c4,c5,B⟩:=hcut;go_wp2_with fail;refine(Qxu (λp=>!Jg p) 266 #[] Qiq A wc rq rQ r.puts (HU.bel B) (λx W hx _=>Qgs x (HQ x hx) W)).zR λw1 b1=>?_
  have d4:=b1.cell c4;have d5:=b1.cell c5;have B1:=Zh (B.trans b1);clear b1 c4 c5;generalize hpa:(r.puts.any λp=>!Jg p)=bad at E ⊢;clear hpa;rcases hid:Mr r with _|_
  ·have E2:=Zh (show Qp r=false by rw[E.o,hid];rfl)
   clear hid;go_wp2;go_ret;exact⟨by rw[E2.o];rfl,B1.o⟩
  ·rcases hye:Gi r with _|_
   ·have E2:=Zh (show Qp r=false by rw[E.o,hye];simp)
    clear hid hye;go_wp2;go_ret;exact⟨by rw[E2.o];rfl,B1.o⟩
   ·have E1:=Zh (show Qp r=(Xq r.parts (F3 r.kind) (Wp r.kind)&&decide ((r.puts.length:Int)<=Jw r.kind)&&!bad) by rw[E.o,hid,hye];simp)
    clear hid hye;go_wp2_with fail;refine(Qp5 (F3 r.kind) (Wp r.kind) A w1 rp rP r.parts ((HP.bel B1))).zS ?_;rcases hri:Xq r.parts (F3 r.kind) (Wp r.kind)with _|_
    ·have E2:=Zh (show Qp r=false by rw[E1.o,hri];simp)
     clear hri;go_wp2;go_ret;exact⟨by rw[E2.o];rfl,B1.o⟩
    ·by_cases hle:(r.puts.length:Int)<=Jw r.kind
     ·have E2:=Zh (show Qp r=!bad by rw[E1.o,hri];simp[hle])
      clear hri;go_wp2;go_ret;exact⟨by rw[E2.o];rfl,B1.o⟩
     ·have E2:=Zh (show Qp r=false by rw[E1.o,hri];simp[hle])
      have hle2:decide ((r.puts.length:Int)<=Jw r.kind)=false:=by simp[hle]
      clear hri;go_wp2;go_ret;exact⟨by rw[E2.o];rfl,B1.o⟩
theorem J9(r:Rec)(rp:Option Addr)(rP:Nat)(rq:Option Addr)(rQ:Nat)(ht:i64 r.tid)(hi:i64 r.id)(hq:∀p∈r.puts,p.q.size<=maxLen)(A:Nat->Prop)(w:World)(hp:Rd Qh A w rp rP r.parts)(hu:Rd Qw A w rq rQ r.puts):
 Calls prog 181 #[.agg #[.int .i64 r.kind,.int .i64 r.tid,.int .i64 r.id,.bool r.yes,.slice rp r.parts.length rP,.slice rq r.puts.length rQ]] w λe w'=>e=.returned (.bool (Qp r))/\Bel w w':=by
 by_cases h1:1<=r.kind
 ·by_cases h2:r.kind<=9
  ·rcases h3:Zw r.tid with _|_
   ·exact Qak r rp rP rq rQ ht w (.inr (.inr h3))
   ·exact Qsm r rp rP rq rQ ht hi hq A w hp hu h1 h2 h3
  ·exact Qak r rp rP rq rQ ht w (.inr (.inl (by omega)))
 ·exact Qak r rp rP rq rQ ht w (.inl (by omega))
def Yw(k:Int):Bool:=k==6||k==8||k==9
def Vy(k:Int):Bool:=k==4||k==7
def Ca(p:Put):List UInt8:=X4 p.q++X4 p.b
def encR(r:Rec):List UInt8:=
 Qd r.kind.toNat++Zc r.tid++(if r.kind=2 then Zc r.id else [])++(if r.kind=5 then [if r.yes then 1 else 0] else []) ++
  (if Yw r.kind=true then Qd r.parts.length++r.parts.flatMap (λn=>Qd n.toNat) else [])++(if Vy r.kind=true then Qd r.puts.length++r.puts.flatMap Ca else [])
theorem Zz.kept{O S:Nat->Prop}{w w':World}{b:Nat}{l:List UInt8}(h:Zz O w b l)(a:Kept S w w')(e:∀k,O k->¬S k):Zz O w' b l:=by
 obtain⟨T,ao,cap,f,g,i,c,d,j⟩:=h;exact⟨T,ao,cap,a.heap (e b c) f,g.kept a (λk h=>e k (d k h)),i,c,d,λk h=>Nat.lt_of_lt_of_le (j k h) a.size⟩
theorem Zz.bel{O:Nat->Prop}{w w':World}{b:Nat}{l:List UInt8}(h:Zz O w b l)(a:Bel w w'):Zz O w' b l:=h.kept (a.kept λ_=>False) λ_ _ h=>h
theorem Zz.new(w:World)(T:TypeId):Zz (λk=>k=w.heap.size) (w.alloc (.cells #[.slice none 0 0] T)) w.heap.size []:=
 ⟨T,none,0,heap_alloc_new w _,Sl.nil _ _ _,λh=>absurd h.1 (by omega),rfl,λk h=>absurd h.1 (by omega),λk h=>by simp;omega⟩
theorem Qfv(l:List UInt8):l.flatMap (λx:UInt8=>[Value.int .u8 x.toNat])=l.map Nr:=by
 induction l with
 | nil=>rfl
 | cons x l ih=>rw[List.flatMap_cons,ih];rfl
theorem Zz.read{O:Nat->Prop}{w:World}{b:Nat}{l:List UInt8}(h:Zz O w b l):∃ao cap,w.cell? ⟨b,0,none⟩=some (.slice ao l.length cap)/\∀A:Nat->Prop,(∀k,O k->¬A k)->Rd Ql A w ao cap l:=by
 obtain⟨T,ao,cap,a,c,i,j,d,m⟩:=h;refine⟨ao,cap,cell_of_block a 0 _ rfl,λA e=>⟨l.map Nr,?_,c.sr λk g=>e k (d k g)⟩⟩;have:=Ch.flat (f:=λx:UInt8=>[Value.int .u8 x.toNat]) (size:=1) (λ_=>rfl) l;rw[Qfv]at this;exact this
theorem Hg(n:Int)(c:0<=n)(f:n<=9223372036854775807)(O:Nat->Prop)(w:World)(b:Nat)(l:List UInt8)(h:Zz O w b l)(d:l.length<=1000000000):
 Calls prog 237 #[.pointer (some ⟨b,0,none⟩),.int .i64 n] w λe w'=>e=.returned (.tuple #[])/\∃a,Zz a w' b (l++Qd n.toNat)/\Kept O w w'/\∀k,a k->O k\/w.heap.size<=k:=by
 obtain⟨m,rfl⟩:=Int.eq_ofNat_of_zero_le c;exact Y5 m O w b l h (by omega) d
theorem Qu(n:Nat):(Qd n).length=2:=K9 _ _
theorem Zu(n:Int):(Zc n).length=8:=K9 _ _
theorem Yc(s:ByteArray):(X4 s).length=2+s.size:=by rw[X4,List.length_append,Qu];simp
theorem Qor(k:Int)(a:k=1\/k=3)(w:World):
 Calls prog 177 #[.int .i64 k] w λe w'=>e=.returned (.tuple #[.bool false,.bool false,.bool false,.bool false])/\w=w':=by
 rcases a with rfl|rfl;all_goals
  go_enter func177,ntmps177;go_wp2;exact bodyPost_ret (v:=.tuple #[.bool false,.bool false,.bool false,.bool false]) (by simp[results,results177,go_sem]) rfl ⟨rfl,rfl⟩
theorem Qos(k:Int)(a:k=2)(w:World):
 Calls prog 177 #[.int .i64 k] w λe w'=>e=.returned (.tuple #[.bool true,.bool false,.bool false,.bool false])/\w=w':=by
 subst a;all_goals
  go_enter func177,ntmps177;go_wp2;exact bodyPost_ret (v:=.tuple #[.bool true,.bool false,.bool false,.bool false]) (by simp[results,results177,go_sem]) rfl ⟨rfl,rfl⟩
theorem Qot(k:Int)(a:k=5)(w:World):
 Calls prog 177 #[.int .i64 k] w λe w'=>e=.returned (.tuple #[.bool false,.bool true,.bool false,.bool false])/\w=w':=by
 subst a;all_goals
  go_enter func177,ntmps177;go_wp2;exact bodyPost_ret (v:=.tuple #[.bool false,.bool true,.bool false,.bool false]) (by simp[results,results177,go_sem]) rfl ⟨rfl,rfl⟩
theorem Qly(k:Int)(a:k=6\/k=8\/k=9)(w:World):
 Calls prog 177 #[.int .i64 k] w λe w'=>e=.returned (.tuple #[.bool false,.bool false,.bool true,.bool false])/\w=w':=by
 rcases a with rfl|rfl|rfl;all_goals
  go_enter func177,ntmps177;go_wp2;exact bodyPost_ret (v:=.tuple #[.bool false,.bool false,.bool true,.bool false]) (by simp[results,results177,go_sem]) rfl ⟨rfl,rfl⟩
theorem Qou(k:Int)(a:k=4\/k=7)(w:World):
 Calls prog 177 #[.int .i64 k] w λe w'=>e=.returned (.tuple #[.bool false,.bool false,.bool false,.bool true])/\w=w':=by
 rcases a with rfl|rfl;all_goals
  go_enter func177,ntmps177;go_wp2;exact bodyPost_ret (v:=.tuple #[.bool false,.bool false,.bool false,.bool true]) (by simp[results,results177,go_sem]) rfl ⟨rfl,rfl⟩
theorem Dq{r:Rec}(h:Qp r=true):r.parts.length<=7:=by
 simp only[Qp,Xq,Bool.and_eq_true,decide_eq_true_eq]at h;have:=h.2.1.1.2.2;have:Wp r.kind<=7:=by unfold Wp;split<;>(try split)<;>(try split)<;>omega
 omega
theorem Qai{r:Rec}(h:Qp r=true):r.puts.length<=10:=by
 simp only[Qp,Bool.and_eq_true,decide_eq_true_eq]at h;have:=h.2.1.2;have:Jw r.kind<=10:=by unfold Jw;split<;>(try split)<;>omega
 omega
theorem Qsl{α:Type}{f:α->Int}{ok:Int->Bool}:∀{l:List α} {p:Option Int},ups f ok p l=true->∀x∈l,ok (f x)=true
 | [],_,_,x,a=>by simp at a
 | y::l,p,h,x,a=>by
  simp only[ups,Bool.and_eq_true]at h;rcases List.mem_cons.1 a with rfl|a
  ·exact h.1.1
  ·exact Qsl h.2 x a
theorem Qdl{r:Rec}{x:Int}(h:Qp r=true)(a:x∈r.parts):0<x/\x<=8:=by
 simp only[Qp,Xq,Bool.and_eq_true]at h;have:=Qsl h.2.1.1.2.1.1 x a;simpa[Qz] using this
theorem Qei{p:Put}(h:Jg p=true):p.q.size<=8/\p.b.size<=60:=by
 simp only[Jg,Jl,Ck,Bool.and_eq_true,decide_eq_true_eq]at h;exact⟨h.1.2,h.2⟩
theorem Un{r:Rec}{x:Put}(h:Qp r=true)(a:x∈r.puts):x.q.size<=8/\x.b.size<=60:=by
 simp only[Qp,Bool.and_eq_true]at h;exact Qei (List.all_eq_true.1 h.2.2 x a)
theorem Qqg:(∀(r:Rec) (rp:Option Addr) (c:Nat) (f:Option Addr) (d:Nat) (z:i64 r.tid) (y:i64 r.id) (A:Nat->Prop) (w:World) (j:∀k,A k->k<w.heap.size) (g:Rd Qh A w rp c r.parts) (i:Rd Qw A w f d r.puts) (m:∀p∈r.puts,p.q.size<=maxLen) (l:Qp r=true) (b:r.kind=1\/r.kind=3),Calls prog 146 #[.agg #[.int .i64 r.kind,.int .i64 r.tid,.int .i64 r.id,.bool r.yes,.slice rp r.parts.length c,.slice f r.puts.length d]] w λe w'=>(∃ao cap,e=.returned (.slice ao (encR r).length cap)/\Rd Ql A w' ao cap (encR r))/\Bel w w') ∧
 (∀(r:Rec) (rp:Option Addr) (c:Nat) (f:Option Addr) (d:Nat) (z:i64 r.tid) (y:i64 r.id) (A:Nat->Prop) (w:World) (j:∀k,A k->k<w.heap.size) (g:Rd Qh A w rp c r.parts) (i:Rd Qw A w f d r.puts) (m:∀p∈r.puts,p.q.size<=maxLen) (l:Qp r=true) (b:r.kind=2),Calls prog 146 #[.agg #[.int .i64 r.kind,.int .i64 r.tid,.int .i64 r.id,.bool r.yes,.slice rp r.parts.length c,.slice f r.puts.length d]] w λe w'=>(∃ao cap,e=.returned (.slice ao (encR r).length cap)/\Rd Ql A w' ao cap (encR r))/\Bel w w') ∧
 (∀(r:Rec) (rp:Option Addr) (c:Nat) (f:Option Addr) (d:Nat) (z:i64 r.tid) (y:i64 r.id) (A:Nat->Prop) (w:World) (j:∀k,A k->k<w.heap.size) (g:Rd Qh A w rp c r.parts) (i:Rd Qw A w f d r.puts) (m:∀p∈r.puts,p.q.size<=maxLen) (l:Qp r=true) (b:r.kind=5),Calls prog 146 #[.agg #[.int .i64 r.kind,.int .i64 r.tid,.int .i64 r.id,.bool r.yes,.slice rp r.parts.length c,.slice f r.puts.length d]] w λe w'=>(∃ao cap,e=.returned (.slice ao (encR r).length cap)/\Rd Ql A w' ao cap (encR r))/\Bel w w'):=by
 refine⟨have k1:=trivial;?_,have k2:=trivial;?_,have k3:=trivial;?_⟩;all_goals
  intro r rp c f d z y A w j g i m l b;obtain⟨V,E,W,Y,X,D⟩:=Zh6 l b g i m j;have ac:=g.small;have ae:=i.small;have J:0<=r.kind/\r.kind<=9:=by omega
  obtain⟨J,aa⟩:=J;first|(have k2:=k2;have o:Hid (encR r=Qd r.kind.toNat++Zc r.tid++Zc r.id):=Zh (by have h:=b<;>simp[encR,h,Yw,Vy]))|(have k3:=k3;have o:Hid (encR r=Qd r.kind.toNat++Zc r.tid++[if r.yes then 1 else 0]):=Zh (by have h:=b<;>simp[encR,h,Yw,Vy]))|(have o:Hid (encR r=Qd r.kind.toNat++Zc r.tid++[]):=Zh (by rcases b with h|h<;>simp[encR,h,Yw,Vy]))
  clear l b g i m j;go_enter func146,ntmps146;go_wp2_with fail;refine(J9 r rp c f d z y X A _ (W.bel ((Bel.refl w).alloc _)) (Y.bel ((Bel.refl w).alloc _))).mono ?_;rw[V.o];rintro e b ⟨rfl,g⟩;have I:b.cell? ⟨w.heap.size,0,none⟩=some (.int .i64 r.kind):=g.cell (by simp);have N:b.cell? ⟨w.heap.size,1,none⟩=some (.int .i64 r.tid):=g.cell (by simp);have O:b.cell? ⟨w.heap.size,2,none⟩=some (.int .i64 r.id):=g.cell (by simp);have P:b.cell? ⟨w.heap.size,3,none⟩=some (.bool r.yes):=g.cell (by simp);have Q:b.cell? ⟨w.heap.size,4,none⟩=some (.slice rp r.parts.length c):=g.cell (by simp);have R:b.cell? ⟨w.heap.size,5,none⟩=some (.slice f r.puts.length d):=g.cell (by simp);have B:=Zh (((Bel.refl w).alloc _).trans g);have ad:w.heap.size<b.heap.size:=by have:=g.size;simp at this;omega
  clear g;go_wp2_with fail;have U:Hid (Bel b (b.alloc (.cells #[.slice none 0 0] 295))):=Zh ((Bel.refl b).alloc _);refine(Hg r.kind J (by omega) _ _ _ _ (Zz.new b _) (by simp)).mono ?_;rintro e T ⟨rfl,M,g,k2,i⟩;have v:Hid (Bel b T):=Zh (U.of_kept k2 (λk h=>by omega));have L:Hid (∀k,M k->b.heap.size<=k):=Zh (λk h=>by rcases i k h with h|h;omega;simp at h;omega);have Z:=Zh g;have N:=v.cell N;have I:=v.cell I;clear g k2 i;go_wp2_with fail;refine(Vd r.tid M T _ _ Z.o (by simp[Qu])).mono ?_;rintro e n ⟨rfl,G,i,k3,j⟩;have g:Hid (Bel b n):=Zh (v.of_kept k3 L.o);have s:Hid (∀k,G k->b.heap.size<=k):=Zh (λk h=>by rcases j k h with h|h;exact L.o k h;exact Nat.le_trans v.size h);have x:=Zh i;have I:=g.cell ‹b.cell? ⟨w.heap.size,0,none⟩=some (.int .i64 r.kind)›;have O:=g.cell O;have P:=g.cell P;have Q:=g.cell Q;have R:=g.cell R;clear i k3 j;obtain⟨m,i⟩:=Zx ([]++Qd r.kind.toNat++Zc r.tid);rw[<-i]at x;first|(have k2:=k2;have l:Hid (encR r=m++Zc r.id):=Zh (by rw[o.o,i];simp))|(have k3:=k3;have l:Hid (encR r=m++[if r.yes then 1 else 0]):=Zh (by rw[o.o,i];simp))|(have l:Hid (encR r=m++[]):=Zh (by rw[o.o,i];simp))
  have ab:m.length<=10:=by rw[i];simp[Qu,Zu]
  clear i;go_wp2_with fail;first|(have k2:=k2;refine(Qos r.kind E.o n).mono ?_)|(have k3:=k3;refine(Qot r.kind E.o n).mono ?_)|(refine(Qor r.kind E.o n).mono ?_)
  rintro e af ⟨rfl,rfl⟩;first
   | (have k2:=k2
      go_wp2_with fail;refine(Vd r.id G n _ m x.o (by omega)).mono ?_;rintro e K ⟨rfl,H,j,k5,t⟩;have C:Hid (Bel b K):=Zh (g.of_kept k5 s.o);have F:Hid (∀k,H k->b.heap.size<=k):=Zh (λk h=>by rcases t k h with h|h;exact s.o k h;exact Nat.le_trans g.size h);rw[<-l.o]at j;clear k5 t;obtain⟨ao,cap,S,i⟩:=j.read;have q:=Zh i;clear i j;go_wp2;go_ret;exact⟨⟨ao,cap,rfl,q.o A (λk h a=>by have:=D.o k a;have:=F.o k h;omega)⟩,B.trans C.o⟩)
   | (have k3:=k3
      go_wp2_with fail;refine(Qhd r.yes G n _ m x.o (by omega)).mono ?_;rintro e K ⟨rfl,H,j,k5,t⟩;have C:Hid (Bel b K):=Zh (g.of_kept k5 s.o);have F:Hid (∀k,H k->b.heap.size<=k):=Zh (λk h=>by rcases t k h with h|h;exact s.o k h;exact Nat.le_trans g.size h);rw[<-l.o]at j;clear k5 t;obtain⟨ao,cap,S,i⟩:=j.read;have q:=Zh i;clear i j;go_wp2;go_ret;exact⟨⟨ao,cap,rfl,q.o A (λk h a=>by have:=D.o k a;have:=F.o k h;omega)⟩,B.trans C.o⟩)
   | (obtain⟨ao,cap,S,i⟩:=x.read
      have q:=Zh i;clear i;go_wp2;go_ret;exact⟨⟨ao,cap,by rw[l.o,List.append_nil];rfl,by rw[l.o,List.append_nil];exact q.o A (λk h a=>by have:=D.o k a;have:=s.o k h;omega)⟩,B.trans g.o⟩)
def Qx5:=Qqg.1
def Qx6:=Qqg.2.1
def Qx7:=Qqg.2.2
theorem Qwf:(∀(r:Rec) (rp:Option Addr) (g:Nat) (l:Option Addr) (j:Nat) (V:i64 r.tid) (T:i64 r.id) (A:Nat->Prop) (w:World) (d:∀k,A k->k<w.heap.size) (b:Rd Qh A w rp g r.parts) (c:Rd Qw A w l j r.puts) (m:∀p∈r.puts,p.q.size<=maxLen) (f:Qp r=true) (q:r.kind=6\/r.kind=8\/r.kind=9),Calls prog 146 #[.agg #[.int .i64 r.kind,.int .i64 r.tid,.int .i64 r.id,.bool r.yes,.slice rp r.parts.length g,.slice l r.puts.length j]] w λe w'=>(∃ao cap,e=.returned (.slice ao (encR r).length cap)/\Rd Ql A w' ao cap (encR r))/\Bel w w') ∧
 (∀(r:Rec) (rp:Option Addr) (g:Nat) (l:Option Addr) (j:Nat) (V:i64 r.tid) (T:i64 r.id) (A:Nat->Prop) (w:World) (d:∀k,A k->k<w.heap.size) (b:Rd Qh A w rp g r.parts) (c:Rd Qw A w l j r.puts) (m:∀p∈r.puts,p.q.size<=maxLen) (f:Qp r=true) (q:r.kind=4\/r.kind=7),Calls prog 146 #[.agg #[.int .i64 r.kind,.int .i64 r.tid,.int .i64 r.id,.bool r.yes,.slice rp r.parts.length g,.slice l r.puts.length j]] w λe w'=>(∃ao cap,e=.returned (.slice ao (encR r).length cap)/\Rd Ql A w' ao cap (encR r))/\Bel w w'):=by
 refine⟨have k1:=trivial;?_,have k2:=trivial;?_⟩;all_goals
  intro r rp g l j V T A w d b c m f q;obtain⟨t,Y,Z,aa,au,ar⟩:=Zh6 f q b c m d;have aH:=b.small;have aJ:=c.small;have U:0<=r.kind/\r.kind<=9:=by omega
  obtain⟨U,aE⟩:=U;first|(have k2:=k2;have K:Hid (encR r=Qd r.kind.toNat++Zc r.tid++(Qd r.puts.length++r.puts.flatMap Ca)):=Zh (by rcases q with h|h<;>simp[encR,h,Yw,Vy]))|(have K:Hid (encR r=Qd r.kind.toNat++Zc r.tid++(Qd r.parts.length++r.parts.flatMap (λn=>Qd n.toNat))):=Zh (by rcases q with h|h|h<;>simp[encR,h,Yw,Vy]))
  clear f q b c m d;go_enter func146,ntmps146;go_wp2_with fail;refine(J9 r rp g l j V T au A _ (Z.bel ((Bel.refl w).alloc _)) (aa.bel ((Bel.refl w).alloc _))).mono ?_;rw[t.o];rintro e b ⟨rfl,c⟩;have Q:b.cell? ⟨w.heap.size,0,none⟩=some (.int .i64 r.kind):=c.cell (by simp);have af:b.cell? ⟨w.heap.size,1,none⟩=some (.int .i64 r.tid):=c.cell (by simp);have ah:b.cell? ⟨w.heap.size,2,none⟩=some (.int .i64 r.id):=c.cell (by simp);have ai:b.cell? ⟨w.heap.size,3,none⟩=some (.bool r.yes):=c.cell (by simp);have R:b.cell? ⟨w.heap.size,4,none⟩=some (.slice rp r.parts.length g):=c.cell (by simp);have S:b.cell? ⟨w.heap.size,5,none⟩=some (.slice l r.puts.length j):=c.cell (by simp);have I:=Zh (((Bel.refl w).alloc _).trans c);have aI:w.heap.size<b.heap.size:=by have:=c.size;simp at this;omega
  clear c;go_wp2_with fail;have ap:Hid (Bel b (b.alloc (.cells #[.slice none 0 0] 295))):=Zh ((Bel.refl b).alloc _);refine(Hg r.kind U (by omega) _ _ _ _ (Zz.new b _) (by simp)).mono ?_;rintro e an ⟨rfl,ad,c,k2,d⟩;have D:Hid (Bel b an):=Zh (ap.of_kept k2 (λk h=>by omega));have ab:Hid (∀k,ad k->b.heap.size<=k):=Zh (λk h=>by rcases d k h with h|h;omega;simp at h;omega);have ax:=Zh c;have af:=D.cell af;have Q:=D.cell Q;clear c k2 d;go_wp2_with fail;refine(Vd r.tid ad an _ _ ax.o (by simp[Qu])).mono ?_;rintro e C ⟨rfl,M,c,k3,d⟩;have m:Hid (Bel b C):=Zh (D.of_kept k3 ab.o);have ac:Hid (∀k,M k->b.heap.size<=k):=Zh (λk h=>by rcases d k h with h|h;exact ab.o k h;exact Nat.le_trans D.size h);have N:=Zh c;have Q:=m.cell ‹b.cell? ⟨w.heap.size,0,none⟩=some (.int .i64 r.kind)›;have ah:=m.cell ah;have ai:=m.cell ai;have R:=m.cell R;have S:=m.cell S;clear c k3 d;obtain⟨f,c⟩:=Zx ([]++Qd r.kind.toNat++Zc r.tid);rw[<-c]at N;first|(have k2:=k2;have X:Hid (encR r=f++(Qd r.puts.length++r.puts.flatMap Ca)):=Zh (by rw[K.o,c];simp))|(have X:Hid (encR r=f++(Qd r.parts.length++r.parts.flatMap (λn=>Qd n.toNat))):=Zh (by rw[K.o,c];simp))
  have aG:f.length<=10:=by rw[c];simp[Qu,Zu]
  clear c;go_wp2_with fail;first|(have k2:=k2;refine(Qou r.kind Y.o C).mono ?_)|(refine(Qly r.kind Y.o C).mono ?_)
  rintro e aM ⟨rfl,rfl⟩;first|(have k2:=k2;have aA:r.puts.length<=10:=Qai t.o)|(have aA:r.parts.length<=7:=Dq t.o)
  go_wp2_with fail;first|(have k2:=k2;refine(Y5 r.puts.length M C _ f N.o (by omega) (by omega)).mono ?_)|(refine(Y5 r.parts.length M C _ f N.o (by omega) (by omega)).mono ?_)
  rintro e aC ⟨rfl,ae,c,k5,d⟩;have J:Hid (Bel b aC):=Zh (m.of_kept k5 ac.o);have av:Hid (∀k,ae k->b.heap.size<=k):=Zh (λk h=>by rcases d k h with h|h;exact ac.o k h;exact Nat.le_trans m.size h);have ay:=Zh c;have R:=J.cell ‹b.cell? ⟨w.heap.size,4,none⟩=some (.slice rp r.parts.length g)›;have S:=J.cell ‹b.cell? ⟨w.heap.size,5,none⟩=some (.slice l r.puts.length j)›;first|(have k2:=k2;have ak:(f++Qd r.puts.length).length<=12:=by simp[Qu];omega)|(have ak:(f++Qd r.parts.length).length<=12:=by simp[Qu];omega)
  clear c k5 d;go_wp2;first|(have k2:=k2;go_loopw[11,69] (λ_ i wr=>∃(k:Nat) (c:List UInt8) (O:Nat->Prop),k<=r.puts.length/\i=.int .i64 k/\c.length<=12+80*k/\Hid (c=f++Qd r.puts.length++(r.puts.take k).flatMap Ca)/\Hid (Zz O wr b.heap.size c)/\Hid (∀k,O k->b.heap.size<=k)/\Hid (Bel b wr)) (λ_ i _=>r.puts.length-(intOf i).toNat))|(go_loopw[9,52] (λ_ i wr=>∃(k:Nat) (c:List UInt8) (O:Nat->Prop),k<=r.parts.length/\i=.int .i64 k/\c.length<=12+2*k/\Hid (c=f++Qd r.parts.length++(r.parts.take k).flatMap (λn=>Qd n.toNat))/\Hid (Zz O wr b.heap.size c)/\Hid (∀k,O k->b.heap.size<=k)/\Hid (Bel b wr)) (λ_ i _=>r.parts.length-(intOf i).toNat))
  case atStart=>exact⟨0,_,ae,Nat.zero_le _,rfl,ak,Zh (by simp),ay,av,J⟩
  case round=>
   obtain⟨k,c,O,q,rfl,aF,E,H,v,o⟩:=hrel;first|(have k2:=k2;by_cases s:k<r.puts.length)|(by_cases s:k<r.parts.length)
   ·first|(have k2:=k2;obtain⟨x,d⟩:∃x,r.puts[k]?=some x:=⟨r.puts[k],by simp[s]⟩)|(obtain⟨x,d⟩:∃x,r.parts[k]?=some x:=⟨r.parts[k],by simp[s]⟩)
    first|(have k2:=k2;obtain⟨a8,off,rfl,a9,c0,c1⟩:=Me (aa.bel (I.trans o.o)) d)|(obtain⟨a8,off,rfl,a9,c0⟩:=Yf (Z.bel (I.trans o.o)) d)
    first|(have k2:=k2;have aj:=Un t.o (List.mem_of_getElem? d))|(have aj:=Qdl t.o (List.mem_of_getElem? d))
    obtain⟨aK,aL⟩:=aj;first
     | (have k2:=k2
        have L:Hid ((r.puts.take (k+1)).flatMap Ca=(r.puts.take k).flatMap Ca++(X4 x.q++X4 x.b)):=Zh (by
         rw[List.take_succ_eq_append_getElem s,List.flatMap_append];rw[List.getElem?_eq_getElem s]at d;cases d;simp[Ca]))
     | (have L:Hid ((r.parts.take (k+1)).flatMap (λn=>Qd n.toNat)=(r.parts.take k).flatMap (λn=>Qd n.toNat)++Qd x.toNat):=Zh (by
         rw[List.take_succ_eq_append_getElem s,List.flatMap_append];rw[List.getElem?_eq_getElem s]at d;cases d;simp))
    clear d;go_wp2_with fail;first
     | (have k2:=k2
        have W:Hid (Bel wr (wr.alloc (.cells #[.string x.q,.string x.b] 33))):=Zh ((Bel.refl wr).alloc _);have am:¬O wr.heap.size:=λh=>by obtain⟨_,_,_,_,_,_,_,_,al⟩:=H.o;have:=al _ h;omega
        refine(Fv x.q O _ _ c (H.bel W.o) (by omega) (by omega)).mono ?_;rintro e d ⟨rfl,y,z,k6,B⟩;have aB:d.cell? ⟨wr.heap.size,1,none⟩=some (.string x.b):=k6.cell am (by simp);have aq:wr.heap.size<d.heap.size:=by have:=k6.size;simp at this;omega
        have F:Hid (Bel b d):=Zh ((o.trans W.o).of_kept k6 v.o);have G:Hid (∀k,y k->b.heap.size<=k):=Zh (λk h=>by rcases B k h with h|h;exact v.o k h;simp at h;have:=o.size;omega);have P:=Zh z;clear z k6 B c0 c1;go_wp2_with fail;refine(Fv x.b y d _ _ P.o (by omega) (by simp[Yc];omega)).mono ?_)
     | (refine(Hg x (by omega) (by omega) O wr _ c H.o (by omega)).mono ?_)
    first|(have k2:=k2;rintro e aD ⟨rfl,W,al,k7,am⟩)|(rintro e d ⟨rfl,y,z,k6,B⟩)
    first|(have k2:=k2;have aq:Hid (Bel b aD):=Zh (F.of_kept k7 G.o))|(have F:Hid (Bel b d):=Zh (o.of_kept k6 v.o))
    first|(have k2:=k2;have aw:Hid (∀k,W k->b.heap.size<=k):=Zh (λk h=>by rcases am k h with h|h;exact G.o k h;exact Nat.le_trans F.size h))|(have G:Hid (∀k,y k->b.heap.size<=k):=Zh (λk h=>by rcases B k h with h|h;exact v.o k h;exact Nat.le_trans o.size h))
    first|(have k2:=k2;have az:=Zh al)|(have P:=Zh z)
    first|(have k2:=k2;clear al k7 am aB)|(clear z k6 B c0)
    go_wp2;go_roundw
    case rel=>
     first|(have k2:=k2;exact⟨k+1,_,W,by omega,by go_num,by simp[Yc];omega,Zh (by rw[L.o,<-List.append_assoc,<-List.append_assoc,<-E.o]),az,aw,aq⟩)|(exact⟨k+1,_,y,by omega,by go_num,by simp[Qu];omega,Zh (by rw[L.o,<-List.append_assoc,<-E.o]),P,G,F⟩)
    case measure=>simp[intOf];omega
   ·first|(have k2:=k2;have z:k=r.puts.length:=by omega)|(have z:k=r.parts.length:=by omega)
    subst z;have d:Hid (c=encR r):=Zh (by rw[E.o,X.o,List.take_length,List.append_assoc]);obtain⟨ao,cap,F,y⟩:=H.read;have B:=Zh y;clear y;go_wp2;go_ret;exact⟨⟨ao,cap,by rw[<-d.o];rfl,by rw[<-d.o];exact B.o A (λk h a=>by have:=ar.o k a;have:=v.o k h;omega)⟩,I.trans o.o⟩
def Qvd:=Qwf.1
def Qx8:=Qwf.2
theorem Qaj(r:Rec)(rp:Option Addr)(b:Nat)(d:Option Addr)(c:Nat)(l:i64 r.tid)(g:i64 r.id)(A:Nat->Prop)(w:World)(f:∀k,A k->k<w.heap.size)(i:Rd Qh A w rp b r.parts)(m:Rd Qw A w d c r.puts)(j:∀p∈r.puts,p.q.size<=maxLen)(a:Qp r=true):
 Calls prog 146 #[.agg #[.int .i64 r.kind,.int .i64 r.tid,.int .i64 r.id,.bool r.yes,.slice rp r.parts.length b,.slice d r.puts.length c]] w λe w'=>(∃ao cap,e=.returned (.slice ao (encR r).length cap)/\Rd Ql A w' ao cap (encR r))/\Bel w w':=by
 have o:1<=r.kind/\r.kind<=9:=by simp only[Qp,Bool.and_eq_true,decide_eq_true_eq]at a;exact⟨a.1.1.1,a.1.1.2⟩
 have n:(r.kind=1\/r.kind=3)\/r.kind=2\/r.kind=5\/(r.kind=6\/r.kind=8\/r.kind=9)\/(r.kind=4\/r.kind=7):=by omega
 rcases n with h|h|h|h|h
 ·exact Qx5 r rp b d c l g A w f i m j a h
 ·exact Qx6 r rp b d c l g A w f i m j a h
 ·exact Qx7 r rp b d c l g A w f i m j a h
 ·exact Qvd r rp b d c l g A w f i m j a h
 ·exact Qx8 r rp b d c l g A w f i m j a h
theorem Qqh(r:Rec)(rp:Option Addr)(a:Nat)(c:Option Addr)(b:Nat)(n:i64 r.tid)(m:i64 r.id)(A:Nat->Prop)(w:World)(f:Rd Qh A w rp a r.parts)(h:Rd Qw A w c b r.puts)(g:∀p∈r.puts,p.q.size<=maxLen)(d:Qp r=false):
 Calls prog 146 #[.agg #[.int .i64 r.kind,.int .i64 r.tid,.int .i64 r.id,.bool r.yes,.slice rp r.parts.length a,.slice c r.puts.length b]] w λe w'=>e=.returned (.slice none 0 0)/\Bel w w':=by
 obtain⟨i,j,l,k⟩:=Zh4 d f h g;clear d f h g;go_enter func146,ntmps146;go_wp2_with fail;refine(J9 r rp a c b n m k A _ (j.bel ((Bel.refl w).alloc _)) (l.bel ((Bel.refl w).alloc _))).mono ?_;rw[i.o];rintro e g ⟨rfl,d⟩;have f:=Zh (((Bel.refl w).alloc _).trans d);clear d;go_wp2;go_ret;exact⟨rfl,f⟩
end Go.Proofs.YtkdpmdfcdgphlaaGreat

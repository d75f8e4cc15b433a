/- Part of this claim's proof. Conditions: as its theorems say. -/
import Derived.Test.YtkdpmdfcdgphlaaGreatM30
set_option linter.all false
set_option maxHeartbeats 4000000
set_option maxRecDepth 100000
namespace Go.Po
open Go.Mem
def Yd(x:Bool):Value:=.bool x
def vo(b ym nm j:Nat):Prop:=j=b\/j=ym\/j=nm
def sOk(x:ByteArray):Prop:=x.size<=maxLen
def keysS{α:Type}(l:List (ByteArray×α)):Prop:=(l.map (·.1)).Nodup
theorem Qmh{α:Type}(k:ByteArray)(v:α):∀l:List (ByteArray×α),(Yz k v l).length=l.length+1
 | []=>rfl
 | y::r=>by simp only[Yz];split<;>simp[Qmh k v r]
theorem Qel{α:Type}(k:ByteArray)(v:α)(l:List (ByteArray×α)):(Jh k v l).length<=l.length+1:=by
 rw[Jh,Qmh];have:(Qx k l).length<=l.length:=List.length_filter_le _ _;omega
theorem Qmi{α:Type}{k:ByteArray}{v:α}{p:ByteArray×α}{l:List (ByteArray×α)}:p∈Jh k v l↔p=(k,v)\/(p∈l/\p.1≠k):=by
 rw[Jh,Qd3,Vz]
theorem Qf9{α:Type}{k:ByteArray}{v:α}:∀{l:List (ByteArray×α)},keysS l->k ∉ l.map (·.1)->keysS (Yz k v l)
 | [],_,_=>by simp[keysS,Yz]
 | y::r,h,hk=>by
  simp only[keysS,List.map_cons,List.nodup_cons]at h;simp only[List.map_cons,List.mem_cons,not_or]at hk;simp only[Yz];split
  ·simp only[keysS,List.map_cons,List.nodup_cons,List.mem_cons,not_or]
   exact⟨⟨hk.1,hk.2⟩,h.1,h.2⟩
  ·simp only[keysS,List.map_cons,List.nodup_cons]
   refine⟨λc=>?_,Qf9 h.2 hk.2⟩;obtain⟨p,a,b⟩:=List.mem_map.1 c;rcases Qd3.1 a with rfl|a
   ·exact hk.1 b
   ·exact h.1 (List.mem_map.2 ⟨p,a,b⟩)
theorem Qo4{α:Type}{k:ByteArray}{v:α}{l:List (ByteArray×α)}(h:keysS l):keysS (Jh k v l):=
 Qf9 (List.Nodup.sublist (List.Sublist.map _ List.filter_sublist) h) λb=>by
  obtain⟨p,c,a⟩:=List.mem_map.1 b;exact(Vz.1 c).2 a
end Go.Po
namespace Go.Proofs.YtkdpmdfcdgphlaaGreat
open Tryz hiding keysS
open Go.RowKit Go.Mem Go.Po Go.Maps
theorem Lt:Keyed prog 3:=int_keyed underlying3
theorem Qcx{x:Int}(h:i64 x):keyOf prog 3 (.int .i64 x)=some (.int .i64 x):=keyOf_int_mk underlying3 (by
 have a:IntKind.i64.min=-9223372036854775808:=by decide
 have b:IntKind.i64.max=9223372036854775807:=by decide
 unfold i64 at h;simp only[Lit.wf,a,b,Bool.and_eq_true,decide_eq_true_eq];exact h)
def Qga(Y N:List (Int×Bool))(x:Int):Bool:=(Qn x Y).getD false||(Qn x N).getD false
def Gv(Y N:List (Int×Bool)):List Int:=(Y.map (·.1)).filter λx=>!Qga Y N x
def Qem(Y N:List (Int×Bool)):Int:=if N.length>0 then 2 else if (Gv Y N).length=0 then 1 else 0
structure Jy(w:World)(b ym nm:Nat)(Y N:List (Int×Bool)):Prop where
 blk:∃T,w.heap[b]?=some (.cells #[.map (some ym),.map (some nm)] T (0,0))
 my:Mp prog 3 w ym (iL Yd Y)
 mn:Mp prog 3 w nm (iL Yd N)
 ne:ym≠nm
 up:Xl Y
 few:Y.length<=100000/\N.length<=100000
 k:∀p∈Y,i64 p.1
theorem Jy.keep{S:Nat->Prop}{w w':World}{b d nm:Nat}{Y N:List (Int×Bool)}(h:Jy w b d nm Y N)(a:Kept S w w')(c:∀j,vo b d nm j->¬S j):Jy w' b d nm Y N:=by
 obtain⟨⟨T,e⟩,f,g,i,k,l,m⟩:=h;exact⟨⟨T,a.heap (c _ (.inl rfl)) e⟩,f.kept a (c _ (.inr (.inl rfl))),g.kept a (c _ (.inr (.inr rfl))),i,k,l,m⟩
theorem Jy.bel{w w':World}{b a nm:Nat}{Y N:List (Int×Bool)}(h:Jy w b a nm Y N)(c:Bel w w'):Jy w' b a nm Y N:=h.keep (c.kept λ_=>False) λ_ _ h=>h
theorem Jy.lt{w:World}{b a nm:Nat}{Y N:List (Int×Bool)}(h:Jy w b a nm Y N){j:Nat}(d:vo b a nm j):j<w.heap.size:=by
 rcases d with rfl|rfl|rfl
 ·obtain⟨T,c⟩:=h.blk;exact Qb c
 ·exact h.my.lt
 ·exact h.mn.lt
theorem Jy.nes{w:World}{b c nm:Nat}{Y N:List (Int×Bool)}(h:Jy w b c nm Y N):b≠c/\b≠nm:=by
 obtain⟨T,a⟩:=h.blk;obtain⟨j,g,d,_⟩:=h.my.1;obtain⟨k,i,f,_⟩:=h.mn.1;exact⟨λe=>(by rw[e,d]at a;cases a),λe=>(by rw[e,f]at a;cases a)⟩
theorem Jy.c0{w:World}{b a nm:Nat}{Y N:List (Int×Bool)}(h:Jy w b a nm Y N):w.cell? ⟨b,0,none⟩=some (.map (some a)):=by obtain⟨T,c⟩:=h.blk;exact cell_of_block c 0 _ rfl
theorem Jy.c1{w:World}{b c nm:Nat}{Y N:List (Int×Bool)}(h:Jy w b c nm Y N):w.cell? ⟨b,1,none⟩=some (.map (some nm)):=by obtain⟨T,a⟩:=h.blk;exact cell_of_block a 1 _ rfl
theorem Qmj{w:World}{m:Nat}{Y:List (Int×Bool)}(h:Mp prog 3 w m (iL Yd Y)){x:Int}(a:i64 x):(Instr.lookup 224 (.map (some m)) (.int .i64 x) false).run prog w=.ok (.bool ((Qn x Y).getD false)) w:=by
 have:=h.look Lt underlying224 (zeroValue4 w) rfl (Qcx a);rw[this,Vp];cases Qn x Y<;>rfl
theorem Qtb{w:World}{m:Nat}{Y:List (Int×Bool)}(h:Mp prog 3 w m (iL Yd Y)){x:Int}(a:i64 x):(Instr.lookup 224 (.map (some m)) (.int .i64 x) true).run prog w=.ok (.tuple #[.bool ((Qn x Y).getD false),.bool (Qn x Y).isSome]) w:=by
 have:=h.look_ok Lt underlying224 (zeroValue4 w) rfl (Qcx a);rw[this,Vp];cases Qn x Y<;>rfl
theorem Qqs{w:World}{m:Nat}{Y:List (Int×Bool)}(h:Mp prog 3 w m (iL Yd Y)){x:Int}(d:i64 x)(v:Bool)(g:Y.length<=100000):∃w',(Instr.mapUpdate 224 (.map (some m)) (.int .i64 x) (.bool v)).run prog w=.ok () w'/\Mp prog 3 w' m (iL Yd (Qo x v Y))/\Kept (λj=>j=m) w w':=by
 obtain⟨f,c,a,b⟩:=h.put Lt underlying224 (k:=.int .i64 x) (v:=.bool v) (by simp only[iL,List.length_map,maxLen];omega) (Qcx d) rfl;refine⟨f,c,?_,b⟩;have e:Wu (.int .i64 x) (.bool v) (U1 (.int .i64 x) (iL Yd Y))=iL Yd (Qo x v Y):=by
  rw[Wv];exact Di Yd x v _
 rw[e]at a;exact a
theorem Ra(A:Nat->Prop)(w:World)(b a nm:Nat)(Y N:List (Int×Bool))(h:Jy w b a nm Y N):
 Calls prog 94 #[.pointer (some ⟨b,0,none⟩)] w λe w'=>∃ao cap c,e=.returned (.slice ao Y.length cap)/\Own Qh A w w' 3 ao cap c/\c=Y.map (·.1)/\Bel w w':=by
 have c0:=h.c0;have H:=Zh h;clear h;go_enter func94,ntmps94;go_wp2_with fail;refine(Qss _ _).mono ?_;rintro e m ⟨rfl,rfl⟩;have c:Bel w (w.alloc (.cells #[.map (some a)] 224)):=(Bel.refl _).alloc _;have f:=Qnp Yd Y H.up A _ a w.heap.size (by simp) (cell_of_block (heap_alloc_new w (.cells #[.map (some a)] 224)) 0 _ rfl) (H.my.bel c) (by have:=H.few;omega);obtain⟨j,d⟩:=Zh2 f c;clear f c c0;go_wp2_with fail;refine j.mono ?_;rintro e n ⟨ao,cap,rfl,f,c⟩;obtain⟨i,g⟩:=Zh2 f (d.trans c);clear f c;go_wp2;go_ret;obtain⟨xs,c,f,l⟩:=i.o;exact⟨ao,cap,_,rfl,⟨xs,c,f,λk h=>Nat.le_trans d.size (l k h)⟩,rfl,g⟩
theorem Qiw(x:Int)(a:i64 x)(W:World)(b f nm B:Nat)(Y N:List (Int×Bool))(h:Jy W b f nm Y N)(d:W.cell? ⟨B,0,none⟩=some (.pointer (some ⟨b,0,none⟩))):
 Calls prog 245 (#[.int .i64 x]++#[.pointer (some ⟨B,0,none⟩)]) W λe c=>e=.returned (.bool (Qga Y N x))/\Bel W c:=by
 have k:=Zd d;have c0:=h.c0;have c1:=h.c1;have c:=Qmj h.my a;have g:=Qmj h.mn a;have i:=h.lt (j:=b) (.inl rfl);rw[Qga];generalize (Qn x Y).getD false=u at *;generalize (Qn x N).getD false=v at *;clear h;show Calls prog 245 #[.int .i64 x,.pointer (some ⟨B,0,none⟩)] W _;rcases u with _|_
 ·go_enter func245,ntmps245
  go_wp2;go_ret;exact⟨by simp,Bel.refl _⟩
 ·go_enter func245,ntmps245
  go_wp2;go_ret;exact⟨by simp,Bel.refl _⟩
theorem Qmk:∀a w,(callFunc 245 a).run prog w=.ok (.enter 245 a) w:=enters_of func245 (by kernel_rfl) rfl
def Yt(x:Int)(yes:Bool)(Y N:List (Int×Bool)):List (Int×Bool)×List (Int×Bool):=
 if (Qn x Y).isSome=true then (if yes=true then (if (Qn x N).getD false=true then (Y,N) else (Qo x true Y,N)) else (Y,Qo x true N)) else (Y,N)
def Yh(l:List Int):List (Int×Bool):=l.foldl (λm x=>Qo x false m) []
theorem Rb(l:List Int):(Yh l).length<=l.length:=by
 have:∀(l:List Int) (m:List (Int×Bool)),(l.foldl (λm x=>Qo x false m) m).length<=m.length+l.length:=by
  intro l;induction l with
  | nil=>intro m;simp
  | cons x r ih=>intro m;have a:=ih (Qo x false m);have b:=putI_len x false m;simp only[List.foldl_cons,List.length_cons];omega
 simpa[Yh] using this l []
theorem Qqt(l:List Int):Xl (Yh l):=by
 have:∀(l:List Int) (m:List (Int×Bool)),Xl m->Xl (l.foldl (λm x=>Qo x false m) m):=by
  intro l;induction l with
  | nil=>intro m h;exact h
  | cons x r ih=>intro m a;exact ih _ (Rw a)
 exact this l [] (by simp[Xl])
theorem Qnt(l:List Int):∀p∈Yh l,p.1∈l:=by
 have:∀(l:List Int) (m:List (Int×Bool)),∀p∈l.foldl (λm x=>Qo x false m) m,p∈m\/p.1∈l:=by
  intro l;induction l with
  | nil=>intro m p a;exact .inl a
  | cons x r ih=>
   intro m p a;rcases ih _ p a with h|h
   ·rcases Zt.1 h with rfl|⟨h,_⟩
    ·exact .inr (by simp)
    ·exact .inl h
   ·exact .inr (by simp[h])
 intro p a;rcases this l [] p a with h|h
 ·simp at h
 ·exact h
theorem Qml{l:List Int}{i:Nat}{x:Int}(a:l[i]?=some x):Yh (l.take (i+1))=Qo x false (Yh (l.take i)):=by
 rw[List.take_add_one,a];simp[Yh,List.foldl_append]
theorem Qha:Keyed prog 9:=string_keyed underlying9
theorem Qqu{x:ByteArray}(h:sOk x):keyOf prog 9 (.string x)=some (.string x.data.toList):=Go.WideMaps.keyOf_string_mk underlying9 h
def Qcd(Y N:List (ByteArray×Bool))(x:ByteArray):Bool:=(Qg x Y).getD false||(Qg x N).getD false
def Qi6(Y N:List (ByteArray×Bool)):List ByteArray:=(Y.map (·.1)).filter λx=>!Qcd Y N x
def Nn(Y N:List (ByteArray×Bool)):Int:=if N.length>0 then 2 else if (Qi6 Y N).length=0 then 1 else 0
structure Jp(w:World)(b ym nm:Nat)(Y N:List (ByteArray×Bool)):Prop where
 blk:∃T,w.heap[b]?=some (.cells #[.map (some ym),.map (some nm)] T (0,0))
 my:Mp prog 9 w ym (sL Yd Y)
 mn:Mp prog 9 w nm (sL Yd N)
 ne:ym≠nm
 up:keysS Y
 few:Y.length<=100000/\N.length<=100000
 k:∀p∈Y,sOk p.1
theorem Jp.keep{S:Nat->Prop}{w w':World}{b d nm:Nat}{Y N:List (ByteArray×Bool)}(h:Jp w b d nm Y N)(a:Kept S w w')(c:∀j,vo b d nm j->¬S j):Jp w' b d nm Y N:=by
 obtain⟨⟨T,e⟩,f,g,i,k,l,m⟩:=h;exact⟨⟨T,a.heap (c _ (.inl rfl)) e⟩,f.kept a (c _ (.inr (.inl rfl))),g.kept a (c _ (.inr (.inr rfl))),i,k,l,m⟩
theorem Jp.bel{w w':World}{b a nm:Nat}{Y N:List (ByteArray×Bool)}(h:Jp w b a nm Y N)(c:Bel w w'):Jp w' b a nm Y N:=h.keep (c.kept λ_=>False) λ_ _ h=>h
theorem Jp.lt{w:World}{b a nm:Nat}{Y N:List (ByteArray×Bool)}(h:Jp w b a nm Y N){j:Nat}(d:vo b a nm j):j<w.heap.size:=by
 rcases d with rfl|rfl|rfl
 ·obtain⟨T,c⟩:=h.blk;exact Qb c
 ·exact h.my.lt
 ·exact h.mn.lt
theorem Jp.nes{w:World}{b c nm:Nat}{Y N:List (ByteArray×Bool)}(h:Jp w b c nm Y N):b≠c/\b≠nm:=by
 obtain⟨T,a⟩:=h.blk;obtain⟨j,g,d,_⟩:=h.my.1;obtain⟨k,i,f,_⟩:=h.mn.1;exact⟨λe=>(by rw[e,d]at a;cases a),λe=>(by rw[e,f]at a;cases a)⟩
theorem Jp.c0{w:World}{b a nm:Nat}{Y N:List (ByteArray×Bool)}(h:Jp w b a nm Y N):w.cell? ⟨b,0,none⟩=some (.map (some a)):=by obtain⟨T,c⟩:=h.blk;exact cell_of_block c 0 _ rfl
theorem Jp.c1{w:World}{b c nm:Nat}{Y N:List (ByteArray×Bool)}(h:Jp w b c nm Y N):w.cell? ⟨b,1,none⟩=some (.map (some nm)):=by obtain⟨T,a⟩:=h.blk;exact cell_of_block a 1 _ rfl
theorem Qmm{w:World}{m:Nat}{Y:List (ByteArray×Bool)}(h:Mp prog 9 w m (sL Yd Y)){x:ByteArray}(a:sOk x):(Instr.lookup 348 (.map (some m)) (.string x) false).run prog w=.ok (.bool ((Qg x Y).getD false)) w:=by
 have:=h.look Qha underlying348 (zeroValue4 w) rfl (Qqu a);rw[this,Lp];cases Qg x Y<;>rfl
theorem Qtc{w:World}{m:Nat}{Y:List (ByteArray×Bool)}(h:Mp prog 9 w m (sL Yd Y)){x:ByteArray}(a:sOk x):(Instr.lookup 348 (.map (some m)) (.string x) true).run prog w=.ok (.tuple #[.bool ((Qg x Y).getD false),.bool (Qg x Y).isSome]) w:=by
 have:=h.look_ok Qha underlying348 (zeroValue4 w) rfl (Qqu a);rw[this,Lp];cases Qg x Y<;>rfl
theorem Qqv{w:World}{m:Nat}{Y:List (ByteArray×Bool)}(h:Mp prog 9 w m (sL Yd Y)){x:ByteArray}(d:sOk x)(v:Bool)(g:Y.length<=100000):∃w',(Instr.mapUpdate 348 (.map (some m)) (.string x) (.bool v)).run prog w=.ok () w'/\Mp prog 9 w' m (sL Yd (Jh x v Y))/\Kept (λj=>j=m) w w':=by
 obtain⟨f,c,a,b⟩:=h.put Qha underlying348 (k:=.string x.data.toList) (v:=.bool v) (by simp only[sL,List.length_map,maxLen];omega) (Qqu d) rfl;refine⟨f,c,?_,b⟩;have e:Wu (.string x.data.toList) (.bool v) (U1 (.string x.data.toList) (sL Yd Y))=sL Yd (Jh x v Y):=by
  rw[Lm];exact Rs Yd x v _
 rw[e]at a;exact a
theorem Qdp(A:Nat->Prop)(w:World)(b a nm:Nat)(Y N:List (ByteArray×Bool))(h:Jp w b a nm Y N):
 Calls prog 227 #[.pointer (some ⟨b,0,none⟩)] w λe w'=>∃ao cap d,e=.returned (.slice ao Y.length cap)/\Own Xk A w w' 9 ao cap d/\d.Perm (Y.map (·.1))/\Bel w w':=by
 have c0:=h.c0;have H:=Zh h;clear h;go_enter func227,ntmps227;go_wp2_with fail;refine(Qsv _ _).mono ?_;rintro e o ⟨rfl,rfl⟩;have c:Bel w (w.alloc (.cells #[.map (some a)] 348)):=(Bel.refl _).alloc _;have g:=Qnr Yd Y  A _ a w.heap.size (by simp) (cell_of_block (heap_alloc_new w (.cells #[.map (some a)] 348)) 0 _ rfl) (H.my.bel c) (by have:=H.few;omega);obtain⟨l,f⟩:=Zh2 g c;clear g c c0;go_wp2_with fail;refine l.mono ?_;rintro e p ⟨ao,cap,d,rfl,g,m,c⟩;obtain⟨j,i⟩:=Zh2 g (f.trans c);clear g c;go_wp2;go_ret;obtain⟨xs,c,g,n⟩:=j.o;exact⟨ao,cap,_,rfl,⟨xs,c,g,λk h=>Nat.le_trans f.size (n k h)⟩,m,i⟩
theorem Qix(x:ByteArray)(a:sOk x)(W:World)(b f nm B:Nat)(Y N:List (ByteArray×Bool))(h:Jp W b f nm Y N)(d:W.cell? ⟨B,0,none⟩=some (.pointer (some ⟨b,0,none⟩))):
 Calls prog 434 (#[.string x]++#[.pointer (some ⟨B,0,none⟩)]) W λe c=>e=.returned (.bool (Qcd Y N x))/\Bel W c:=by
 have k:=Zd d;have c0:=h.c0;have c1:=h.c1;have c:=Qmm h.my a;have g:=Qmm h.mn a;have i:=h.lt (j:=b) (.inl rfl);rw[Qcd];generalize (Qg x Y).getD false=u at *;generalize (Qg x N).getD false=v at *;clear h;show Calls prog 434 #[.string x,.pointer (some ⟨B,0,none⟩)] W _;rcases u with _|_
 ·go_enter func434,ntmps434
  go_wp2;go_ret;exact⟨by simp,Bel.refl _⟩
 ·go_enter func434,ntmps434
  go_wp2;go_ret;exact⟨by simp,Bel.refl _⟩
theorem Qmn:∀a w,(callFunc 434 a).run prog w=.ok (.enter 434 a) w:=enters_of func434 (by kernel_rfl) rfl
theorem Qmo:(∀(A:Nat->Prop) (w:World) (b d nm:Nat) (Y N:List (Int×Bool)) (h:Jy w b d nm Y N),Calls prog 158 #[.pointer (some ⟨b,0,none⟩)] w λe w'=>∃ao cap a,e=.returned (.slice ao (Gv Y N).length cap)/\Own Qh A w w' 3 ao cap a/\a=Gv Y N/\Bel w w') ∧
 (∀(A:Nat->Prop) (w:World) (b d nm:Nat) (Y N:List (ByteArray×Bool)) (h:Jp w b d nm Y N),Calls prog 380 #[.pointer (some ⟨b,0,none⟩)] w λe w'=>∃ao cap a,e=.returned (.slice ao (Qi6 Y N).length cap)/\Own Xk A w w' 9 ao cap a/\a.Perm (Qi6 Y N)/\Bel w w'):=by
 refine⟨have k1:=trivial;?_,have k2:=trivial;?_⟩;all_goals
  intro A w b d nm Y N h;first|(have k2:=k2;have c:Bel w (w.alloc (.cells #[.pointer (some ⟨b,0,none⟩)] 283)):=(Bel.refl _).alloc _)|(have c:Bel w (w.alloc (.cells #[.pointer (some ⟨b,0,none⟩)] 160)):=(Bel.refl _).alloc _)
  first|(have k2:=k2;have g:=Qdp A _ b d nm Y N (h.bel c))|(have g:=Ra A _ b d nm Y N (h.bel c))
  obtain⟨F,H,i⟩:=Zh3 g h c;obtain⟨n,f⟩:=Zx Y.length;rw[<-f]at F;have E:=Zh f;first|(have k2:=k2;have r:=Qmn)|(have r:=Qmk)
  have G:n<=100000:=by have:=h.few.1;omega
  clear g h c f;first|(have k2:=k2;go_enter func380,ntmps380)|(go_enter func158,ntmps158)
  go_wp2_with fail;refine F.mono ?_;rintro e C ⟨ao,cap,a,rfl,o,hrel,s⟩;first|(have k2:=k2;have g:n=a.length:=by rw[hrel.length_eq,E.o];simp)|(have g:n=a.length:=by rw[hrel,E.o];simp)
  have c0:C.cell? ⟨w.heap.size,0,none⟩=some (.pointer (some ⟨b,0,none⟩)):=s.cell (by go_simp);have c:Hid (∀k,Qc ao cap k->w.heap.size+1<=k):=Zh (by obtain⟨_,_,_,K⟩:=o;simpa using K);obtain⟨l,D,q⟩:=Zh3 s c0 hrel;first
   | (have k2:=k2
      have m:=Qew (Qcd Y N) 434 #[.pointer (some ⟨w.heap.size,0,none⟩)] r A _ C ao cap a o (by rw[<-g];exact G)
       (λx W z f=>Qix x (by
         have B:x∈Y.map (·.1):=by exact q.mem_iff.1 z
         obtain⟨p,y,rfl⟩:=List.mem_map.1 B;exact H.k p y) W b d nm w.heap.size Y N (((H.bel i.o).bel l.o).keep f λj t v=>by have I:=c.o j v;have J:=H.lt t;omega) (f.cell (λh=>by have:=c.o _ h;dsimp only at this;omega) D.o)))
   | (have m:=Qev (Qga Y N) 245 #[.pointer (some ⟨w.heap.size,0,none⟩)] r A _ C ao cap a o (by rw[<-g];exact G)
       (λx W z f=>Qiw x (by
         have B:x∈Y.map (·.1):=by rw[<-q.o];exact z
         obtain⟨p,y,rfl⟩:=List.mem_map.1 B;exact H.k p y) W b d nm w.heap.size Y N (((H.bel i.o).bel l.o).keep f λj t v=>by have I:=c.o j v;have J:=H.lt t;omega) (f.cell (λh=>by have:=c.o _ h;dsimp only at this;omega) D.o)))
  rw[<-g]at m;have t:=Zh m;clear o s c0 m hrel g;go_wp2_with fail;refine t.mono ?_;rintro e v ⟨rfl,m,g⟩;obtain⟨o,f⟩:=Zh2 m g;clear m g;go_wp2;go_ret;obtain⟨xs,g,m,s⟩:=o.o;have hrel:=q.o;first|(have k2:=k2;refine⟨ao,cap,_,?_,⟨xs,g,m,λk h=>by have:=c.o k h;omega⟩,hrel.filter _,(i.trans l.o).of_kept f.o λk h=>by have:=c.o k h;omega⟩)|(refine⟨ao,cap,_,?_,⟨xs,g,m,λk h=>by have:=c.o k h;omega⟩,by rw[hrel];rfl,(i.trans l.o).of_kept f.o λk h=>by have:=c.o k h;omega⟩)
  first|(have k2:=k2;rw[(hrel.filter λx=>!Qcd Y N x).length_eq];rfl)|(rw[hrel];rfl)
def Qce:=Qmo.1
def Qmp:=Qmo.2
theorem Qzi:(∀(w:World) (b a nm:Nat) (Y N:List (Int×Bool)) (h:Jy w b a nm Y N),Calls prog 164 #[.pointer (some ⟨b,0,none⟩)] w λe w'=>e=.returned (.int .i64 (Qem Y N))/\Bel w w') ∧
 (∀(w:World) (b a nm:Nat) (Y N:List (ByteArray×Bool)) (h:Jp w b a nm Y N),Calls prog 313 #[.pointer (some ⟨b,0,none⟩)] w λe w'=>e=.returned (.int .i64 (Nn Y N))/\Bel w w'):=by
 refine⟨have k1:=trivial;?_,have k2:=trivial;?_⟩;all_goals
  intro w b a nm Y N h;first|(have k2:=k2;have c:=Qmp (λ_=>False) w b a nm Y N h)|(have c:=Qce (λ_=>False) w b a nm Y N h)
  have c1:=h.c1;first|(have k2:=k2;have f:=λd=>h.mn.len underlying348 d)|(have f:=λd=>h.mn.len underlying224 d)
  first|(have k2:=k2;rw[show(sL Yd N).length=N.length by simp[sL]]at f)|(rw[show(iL Yd N).length=N.length by simp[iL]]at f)
  have l:=h.lt (j:=b) (.inl rfl);first|(have k2:=k2;rw[Nn])|(rw[Qem])
  first|(have k2:=k2;generalize (Qi6 Y N).length=m at *)|(generalize (Gv Y N).length=m at *)
  generalize N.length=n at *;have i:=Zh c;clear h c;by_cases c:n>0
  ·rw[if_pos c]
   have d:=c;clear c;first|(have k2:=k2;go_enter func313,ntmps313)|(go_enter func164,ntmps164)
   go_wp2;go_ret;exact⟨rfl,Bel.refl _⟩
  ·rw[if_neg c]
   obtain rfl:n=0:=by omega
   clear c;by_cases g:m=0
   ·rw[if_pos g]
    subst g;first|(have k2:=k2;go_enter func313,ntmps313)|(go_enter func164,ntmps164)
    go_wp2_with fail;refine i.mono ?_;rintro e k ⟨ao,cap,h,rfl,-,-,c⟩;have d:=Zh c;clear c;go_wp2;go_ret;exact⟨rfl,d⟩
   ·rw[if_neg g]
    first|(have k2:=k2;go_enter func313,ntmps313)|(go_enter func164,ntmps164)
    go_wp2_with fail;refine i.mono ?_;rintro e k ⟨ao,cap,h,rfl,-,-,c⟩;have d:=Zh c;clear c;go_wp2;go_ret;exact⟨rfl,d⟩
def Qar:=Qzi.1
def Qen:=Qzi.2
def Jz(x:ByteArray)(yes:Bool)(Y N:List (ByteArray×Bool)):List (ByteArray×Bool)×List (ByteArray×Bool):=
 if (Qg x Y).isSome=true then (if yes=true then (if (Qg x N).getD false=true then (Y,N) else (Jh x true Y,N)) else (Y,Jh x true N)) else (Y,N)
theorem Qwh:(∀(x:Int) (g:i64 x) (f:Bool) (w:World) (b a nm:Nat) (Y N:List (Int×Bool)) (h:Jy w b a nm Y N) (L:Y.length<100000/\N.length<100000),Calls prog 93 #[.pointer (some ⟨b,0,none⟩),.int .i64 x,.bool f] w λe w'=>e=.returned (.int .i64 (Qem (Yt x f Y N).1 (Yt x f Y N).2))/\Jy w' b a nm (Yt x f Y N).1 (Yt x f Y N).2/\Kept (λj=>j=a\/j=nm) w w') ∧
 (∀(x:ByteArray) (g:sOk x) (f:Bool) (w:World) (b a nm:Nat) (Y N:List (ByteArray×Bool)) (h:Jp w b a nm Y N) (L:Y.length<100000/\N.length<100000),Calls prog 226 #[.pointer (some ⟨b,0,none⟩),.string x,.bool f] w λe w'=>e=.returned (.int .i64 (Nn (Jz x f Y N).1 (Jz x f Y N).2))/\Jp w' b a nm (Jz x f Y N).1 (Jz x f Y N).2/\Kept (λj=>j=a\/j=nm) w w'):=by
 refine⟨have k1:=trivial;?_,have k2:=trivial;?_⟩;all_goals
  intro x g f w b a nm Y N h L;have K:=Zh h;have c0:=h.c0;have c1:=h.c1;have C:=h.nes;first|(have k2:=k2;have G:=Qtc h.my g)|(have G:=Qtb h.my g)
  first|(have k2:=k2;have H:=Qmm h.mn g)|(have H:=Qmj h.mn g)
  first|(have k2:=k2;have D:=Zh (Qen w b a nm Y N h))|(have D:=Zh (Qar w b a nm Y N h))
  first|(have k2:=k2;rcases d:(Qg x Y).isSome with _|_)|(rcases d:(Qn x Y).isSome with _|_)
  ·first|(have k2:=k2;have e:Jz x f Y N=(Y,N):=by rw[Jz,if_neg (by rw[d];simp)])|(have e:Yt x f Y N=(Y,N):=by rw[Yt,if_neg (by rw[d];simp)])
   rw[e];rw[d]at G;clear h d e;first|(have k2:=k2;generalize (Qg x Y).getD false=u at *)|(generalize (Qn x Y).getD false=u at *)
   first|(have k2:=k2;go_enter func226,ntmps226)|(go_enter func93,ntmps93)
   go_wp2_with fail;refine D.zR λJ l=>?_
   have i:=Zh l;clear l;go_wp2;go_ret;exact⟨rfl,K.bel i,i.kept _⟩
  ·rw[d]at G
   rcases f with _|_
   ·first|(have k2:=k2;have e:Jz x false Y N=(Y,Jh x true N):=by rw[Jz,if_pos d,if_neg (by simp)])|(have e:Yt x false Y N=(Y,Qo x true N):=by rw[Yt,if_pos d,if_neg (by simp)])
    rw[e];first|(have k2:=k2;obtain⟨n,I,o,c⟩:=Qqv h.mn g true h.few.2)|(obtain⟨n,I,o,c⟩:=Qqs h.mn g true h.few.2)
    first
     | (have k2:=k2
        have m:Jp n b a nm Y (Jh x true N):=by
         obtain⟨⟨T,r⟩,A,B,k,s,t,v⟩:=h;exact⟨⟨T,c.heap C.2 r⟩,A.kept c k,o,k,s,⟨t.1,by have:=Qel x true N;omega⟩,v⟩)
     | (have m:Jy n b a nm Y (Qo x true N):=by
         obtain⟨⟨T,r⟩,A,B,k,s,t,v⟩:=h;exact⟨⟨T,c.heap C.2 r⟩,A.kept c k,o,k,s,⟨t.1,by have:=putI_len x true N;omega⟩,v⟩)
    have F:=Zh m;first|(have k2:=k2;have z:=Zh (Qen n b a nm _ _ m))|(have z:=Zh (Qar n b a nm _ _ m))
    have E:=Zh c;clear h d e o c m;first|(have k2:=k2;generalize (Qg x Y).getD false=u at *)|(generalize (Qn x Y).getD false=u at *)
    first|(have k2:=k2;go_enter func226,ntmps226)|(go_enter func93,ntmps93)
    go_wp2_with fail;refine z.zR λJ l=>?_
    have i:=Zh l;clear l;go_wp2;go_ret;exact⟨rfl,F.bel i,(E.mono λj _ h=>.inr h).trans (i.kept _)⟩
   ·first|(have k2:=k2;rcases q:(Qg x N).getD false with _|_)|(rcases q:(Qn x N).getD false with _|_)
    ·first|(have k2:=k2;have e:Jz x true Y N=(Jh x true Y,N):=by rw[Jz,if_pos d,if_pos rfl,if_neg (by rw[q];simp)])|(have e:Yt x true Y N=(Qo x true Y,N):=by rw[Yt,if_pos d,if_pos rfl,if_neg (by rw[q];simp)])
     rw[e];rw[q]at H;first|(have k2:=k2;obtain⟨n,I,o,c⟩:=Qqv h.my g true h.few.1)|(obtain⟨n,I,o,c⟩:=Qqs h.my g true h.few.1)
     first
      | (have k2:=k2
         have m:Jp n b a nm (Jh x true Y) N:=by
          obtain⟨⟨T,r⟩,A,B,k,s,t,v⟩:=h;exact⟨⟨T,c.heap C.1 r⟩,o,B.kept c (λe=>k e.symm),k,(Qo4 s),⟨by have:=Qel x true Y;omega,t.2⟩,λp y=>by
           rcases Qmi.1 y with rfl|⟨y,_⟩
           ·exact g
           ·exact v p y⟩)
      | (have m:Jy n b a nm (Qo x true Y) N:=by
          obtain⟨⟨T,r⟩,A,B,k,s,t,v⟩:=h;exact⟨⟨T,c.heap C.1 r⟩,o,B.kept c (λe=>k e.symm),k,(Rw s),⟨by have:=putI_len x true Y;omega,t.2⟩,λp y=>by
           rcases Zt.1 y with rfl|⟨y,_⟩
           ·exact g
           ·exact v p y⟩)
     have F:=Zh m;first|(have k2:=k2;have z:=Zh (Qen n b a nm _ _ m))|(have z:=Zh (Qar n b a nm _ _ m))
     have E:=Zh c;clear h d e q o c m;first|(have k2:=k2;generalize (Qg x Y).getD false=u at *)|(generalize (Qn x Y).getD false=u at *)
     first|(have k2:=k2;go_enter func226,ntmps226)|(go_enter func93,ntmps93)
     go_wp2_with fail;refine z.zR λJ l=>?_
     have i:=Zh l;clear l;go_wp2;go_ret;exact⟨rfl,F.bel i,(E.mono λj _ h=>.inl h).trans (i.kept _)⟩
    ·first|(have k2:=k2;have e:Jz x true Y N=(Y,N):=by rw[Jz,if_pos d,if_pos rfl,if_pos q])|(have e:Yt x true Y N=(Y,N):=by rw[Yt,if_pos d,if_pos rfl,if_pos q])
     rw[e];rw[q]at H;clear h d e q;first|(have k2:=k2;generalize (Qg x Y).getD false=u at *)|(generalize (Qn x Y).getD false=u at *)
     first|(have k2:=k2;go_enter func226,ntmps226)|(go_enter func93,ntmps93)
     go_wp2_with fail;refine D.zR λJ l=>?_
     have i:=Zh l;clear l;go_wp2;go_ret;exact⟨rfl,K.bel i,i.kept _⟩
def Qtd:=Qwh.1
def Pw:=Qwh.2
def Va(l:List ByteArray):List (ByteArray×Bool):=l.foldl (λm x=>Jh x false m) []
theorem Qdq(l:List ByteArray):(Va l).length<=l.length:=by
 have:∀(l:List ByteArray) (m:List (ByteArray×Bool)),(l.foldl (λm x=>Jh x false m) m).length<=m.length+l.length:=by
  intro l;induction l with
  | nil=>intro m;simp
  | cons x r ih=>intro m;have a:=ih (Jh x false m);have b:=Qel x false m;simp only[List.foldl_cons,List.length_cons];omega
 simpa[Va] using this l []
theorem Qqw(l:List ByteArray):keysS (Va l):=by
 have:∀(l:List ByteArray) (m:List (ByteArray×Bool)),keysS m->keysS (l.foldl (λm x=>Jh x false m) m):=by
  intro l;induction l with
  | nil=>intro m h;exact h
  | cons x r ih=>intro m a;exact ih _ (Qo4 a)
 exact this l [] (by simp[keysS])
theorem Qnu(l:List ByteArray):∀p∈Va l,p.1∈l:=by
 have:∀(l:List ByteArray) (m:List (ByteArray×Bool)),∀p∈l.foldl (λm x=>Jh x false m) m,p∈m\/p.1∈l:=by
  intro l;induction l with
  | nil=>intro m p a;exact .inl a
  | cons x r ih=>
   intro m p a;rcases ih _ p a with h|h
   ·rcases Qmi.1 h with rfl|⟨h,_⟩
    ·exact .inr (by simp)
    ·exact .inl h
   ·exact .inr (by simp[h])
 intro p a;rcases this l [] p a with h|h
 ·simp at h
 ·exact h
theorem Qmq{l:List ByteArray}{i:Nat}{x:ByteArray}(a:l[i]?=some x):Va (l.take (i+1))=Jh x false (Va (l.take i)):=by
 rw[List.take_add_one,a];simp[Va,List.foldl_append]
theorem Qmr:(∀(w:World) (ao:Option Addr) (cap:Nat) (l:List Int) (m:Rd Qh (λ_=>False) w ao cap l) (C:l.length<100000) (f:∀x∈l,i64 x),Calls prog 86 #[.slice ao l.length cap] w λe w'=>∃b c nm,e=.returned (.pointer (some ⟨b,0,none⟩))/\Jy w' b c nm (Yh l) []/\Bel w w'/\∀j,vo b c nm j->w.heap.size<=j) ∧
 (∀(w:World) (ao:Option Addr) (cap:Nat) (l:List ByteArray) (m:Rd Xk (λ_=>False) w ao cap l) (C:l.length<100000) (f:∀x∈l,sOk x),Calls prog 225 #[.slice ao l.length cap] w λe w'=>∃b c nm,e=.returned (.pointer (some ⟨b,0,none⟩))/\Jp w' b c nm (Va l) []/\Bel w w'/\∀j,vo b c nm j->w.heap.size<=j):=by
 refine⟨have k1:=trivial;?_,have k2:=trivial;?_⟩;all_goals
  intro w ao cap l m C f;first|(have k2:=k2;have Q:∀w,(Instr.makeMap 348 none).run prog w=.ok (.map (some w.heap.size)) (w.alloc (.map #[] 0)):=λw=>rfl)|(have Q:∀w,(Instr.makeMap 224 none).run prog w=.ok (.map (some w.heap.size)) (w.alloc (.map #[] 0)):=λw=>rfl)
  have H:=Zh m;obtain⟨n,d⟩:=Zx l.length;rw[<-d]at C ⊢;obtain⟨I,t⟩:=Zh2 d f;clear m d f;first
   | (have k2:=k2
      have f:Jp (((w.alloc (.map #[] 0)).alloc (.map #[] 0)).alloc (.cells #[.map (some w.heap.size),.map (some (w.heap.size+1))] 350)) (w.heap.size+2) w.heap.size (w.heap.size+1) [] []:=by
       have d:=heap_alloc_new ((w.alloc (.map #[] 0)).alloc (.map #[] 0)) (.cells #[.map (some w.heap.size),.map (some (w.heap.size+1))] 350);have o:=(Mp.made (w.alloc (.map #[] 0)) prog 9).bel ((Bel.refl _).alloc (.cells #[.map (some w.heap.size),.map (some (w.heap.size+1))] 350));exact⟨⟨_,by simpa using d⟩,((Mp.made w _ _).bel ((Bel.refl _).alloc _)).bel ((Bel.refl _).alloc _),by simpa[sL] using o,by omega,by simp[keysS],by simp,by simp⟩)
   | (have f:Jy (((w.alloc (.map #[] 0)).alloc (.map #[] 0)).alloc (.cells #[.map (some w.heap.size),.map (some (w.heap.size+1))] 226)) (w.heap.size+2) w.heap.size (w.heap.size+1) [] []:=by
       have d:=heap_alloc_new ((w.alloc (.map #[] 0)).alloc (.map #[] 0)) (.cells #[.map (some w.heap.size),.map (some (w.heap.size+1))] 226);have o:=(Mp.made (w.alloc (.map #[] 0)) prog 3).bel ((Bel.refl _).alloc (.cells #[.map (some w.heap.size),.map (some (w.heap.size+1))] 226));exact⟨⟨_,by simpa using d⟩,((Mp.made w _ _).bel ((Bel.refl _).alloc _)).bel ((Bel.refl _).alloc _),by simpa[iL] using o,by omega,by simp[Xl],by simp,by simp⟩)
  first|(have k2:=k2;have c:Bel w (((w.alloc (.map #[] 0)).alloc (.map #[] 0)).alloc (.cells #[.map (some w.heap.size),.map (some (w.heap.size+1))] 350)):=(((Bel.refl w).alloc _).alloc _).alloc _)|(have c:Bel w (((w.alloc (.map #[] 0)).alloc (.map #[] 0)).alloc (.cells #[.map (some w.heap.size),.map (some (w.heap.size+1))] 226)):=(((Bel.refl w).alloc _).alloc _).alloc _)
  obtain⟨J,G⟩:=Zh2 f c;clear f c;first|(have k2:=k2;go_enter func225,ntmps225)|(go_enter func86,ntmps86)
  go_wp2;first|(have k2:=k2;go_loopw[12] (λa wr=>∃(i:Nat),i<=n/\a=.int .i64 i/\Hid (Jp wr (w.heap.size+2) w.heap.size (w.heap.size+1) (Va (l.take i)) [])/\Hid (Bel w wr)) (λa _=>n-(intOf a).toNat))|(go_loopw[12] (λa wr=>∃(i:Nat),i<=n/\a=.int .i64 i/\Hid (Jy wr (w.heap.size+2) w.heap.size (w.heap.size+1) (Yh (l.take i)) [])/\Hid (Bel w wr)) (λa _=>n-(intOf a).toNat))
  case atStart=>
   first|(have k2:=k2;exact⟨0,Nat.zero_le _,rfl,by simpa[Va] using J,G⟩)|(exact⟨0,Nat.zero_le _,rfl,by simpa[Yh] using J,G⟩)
  case round=>
   obtain⟨i,U,rfl,f,r⟩:=hrel;by_cases S:i<n
   ·obtain⟨x,q⟩:∃x,l[i]?=some x:=⟨l[i]'(by have:=I.o;omega),by simp⟩
    first|(have k2:=k2;obtain⟨g,off,rfl,P,O⟩:=Qrf (H.bel r.o) q)|(obtain⟨g,off,rfl,P,O⟩:=Yf (H.bel r.o) q)
    have E:=t x (List.mem_of_getElem? q);first|(have k2:=k2;have B:=Qdq (l.take i))|(have B:=Rb (l.take i))
    rw[List.length_take]at B;first|(have k2:=k2;obtain⟨F,R,s,c⟩:=Qqv f.my E false (by omega))|(obtain⟨F,R,s,c⟩:=Qqs f.my E false (by omega))
    have c0:=f.c0;have K:=Zh q;first
     | (have k2:=k2
        have h:Jp F (w.heap.size+2) w.heap.size (w.heap.size+1) (Va (l.take (i+1))) []:=by
         obtain⟨⟨T,v⟩,o,y,z,L,M,N⟩:=f.o;have A:=Qdq (l.take (i+1));rw[List.length_take]at A;exact⟨⟨T,c.heap (by omega) v⟩,by rw[Qmq K.o];exact s,y.kept c (by omega),z,Qqw _,⟨by omega,by simp⟩,λp D=>t.o _ (List.mem_of_mem_take (Qnu _ p D))⟩)
     | (have h:Jy F (w.heap.size+2) w.heap.size (w.heap.size+1) (Yh (l.take (i+1))) []:=by
         obtain⟨⟨T,v⟩,o,y,z,L,M,N⟩:=f.o;have A:=Rb (l.take (i+1));rw[List.length_take]at A;exact⟨⟨T,c.heap (by omega) v⟩,by rw[Qml K.o];exact s,y.kept c (by omega),z,Qqt _,⟨by omega,by simp⟩,λp D=>t.o _ (List.mem_of_mem_take (Qnt _ p D))⟩)
    obtain⟨v,o⟩:=Zh2 h (r.of_kept c λk m=>by omega);have y:(0:Int)<=(i:Int):=by omega
    have z:(i:Int)<(n:Int):=by omega
    have A:IntKind.i64.wrap ((i:Int)+1)=((i+1:Nat):Int):=by rw[IntKind.wrap_i64];omega
    clear q s c h B E;go_wp2;go_roundw
    case rel=>exact⟨i+1,by omega,by go_num,v,o⟩
    case measure=>simp[intOf];omega
   ·obtain rfl:i=n:=by omega
    go_wp2;go_ret;have c:=List.take_of_length_le (by rw[<-I.o];exact Nat.le_refl _);have h:=f.o;rw[c]at h;exact⟨w.heap.size+2,w.heap.size,w.heap.size+1,by simp,h,r.o,λj o=>by rcases o with rfl|rfl|rfl<;>omega⟩
def Qcf:=Qmr.1
def Qms:=Qmr.2
end Go.Proofs.YtkdpmdfcdgphlaaGreat
namespace Go.Po
open Go.Mem Go.Proofs.YtkdpmdfcdgphlaaGreat
def Qjc:List (ByteArray×Bool):=Va [⟨#[97]⟩,⟨#[98]⟩,⟨#[97]⟩]
def Hm:List (ByteArray×Bool)×List (ByteArray×Bool):=Jz ⟨#[97]⟩ true Qjc []
def Ho:List (ByteArray×Bool)×List (ByteArray×Bool):=Jz ⟨#[99]⟩ false Hm.1 Hm.2
def Hq:List (ByteArray×Bool)×List (ByteArray×Bool):=Jz ⟨#[98]⟩ true Ho.1 Ho.2
def Qjd:List (ByteArray×Bool)×List (ByteArray×Bool):=Jz ⟨#[97]⟩ false Hq.1 Hq.2
theorem Qwx:Nn Hm.1 Hm.2=0/\Nn Ho.1 Ho.2=0/\Nn Hq.1 Hq.2=1/\Nn Qjd.1 Qjd.2=2/\Qjd.1.length=2:=by decide +kernel
theorem Qwy:(Qjc.length<100000/\(0:Nat)<100000)/\(Hm.1.length<100000/\Hm.2.length<100000)/\(Ho.1.length<100000/\Ho.2.length<100000)/\(Hq.1.length<100000/\Hq.2.length<100000):=by decide +kernel
end Go.Po
namespace Go.Proofs.YtkdpmdfcdgphlaaGreat
open Tryz hiding keysS
open Go.RowKit Go.Mem Go.Po
theorem Qmx(w:World):Calls prog 137 #[] w λe w'=>e=.returned (.bool true)/\Bel w w':=by
 have ha:sOk ⟨#[97]⟩:=by simp[sOk,maxLen,ByteArray.size]
 have hb:sOk ⟨#[98]⟩:=by simp[sOk,maxLen,ByteArray.size]
 have hc:sOk ⟨#[99]⟩:=by simp[sOk,maxLen,ByteArray.size]
 obtain⟨W1,hW1⟩:=Zx (w.alloc (.cells #[.string ⟨#[97]⟩,.string ⟨#[98]⟩,.string ⟨#[97]⟩] 9));have b1:=Zb hW1;have r1:=Zn hW1;have hrd:Rd Xk (λ_=>False) W1 (some ⟨w.heap.size,0,none⟩) 3 [⟨#[97]⟩,⟨#[98]⟩,⟨#[97]⟩]:=⟨[.string ⟨#[97]⟩,.string ⟨#[98]⟩,.string ⟨#[97]⟩],Ch.cons (vs:=[_]) (xs:=[_,_]) rfl rfl (Ch.cons (vs:=[_]) (xs:=[_]) rfl rfl (Ch.one rfl rfl)),rfl,by simp,by simp[maxLen],λ_=>⟨w.heap.size,0,_,_,_,rfl,Qb r1,λhk=>hk,r1,λj u hj=>by simpa using hj⟩⟩;have hnew:=Qms W1 (some ⟨w.heap.size,0,none⟩) 3 [⟨#[97]⟩,⟨#[98]⟩,⟨#[97]⟩] hrd (by simp) (λx hx=>by
  simp only[List.mem_cons,List.not_mem_nil,or_false]at hx;rcases hx with rfl|rfl|rfl<;>first|exact ha|exact hb)
 rw[show Va [⟨#[97]⟩,⟨#[98]⟩,⟨#[97]⟩]=Qjc from rfl]at hnew;obtain⟨HNEW,HW,B1,HHOW,HFEW,HABC⟩:=Zh6 hnew hW1 b1 Qwx Qwy (And.intro ha (And.intro hb hc));clear hW1 b1 r1 hrd hnew ha hb hc;go_enter func137,ntmps137;go_wp2_with fail;rw[<-HW.o];refine HNEW.mono ?_;rintro e w2 ⟨b,ym,nm,rfl,v2,b2,f2⟩;obtain⟨F2,V2,B2⟩:=Zh3 (show ∀j,(j=ym\/j=nm)->W1.heap.size<=j fromλj hj=>f2 j (.inr hj)) v2 (B1.trans b2);clear v2 b2 f2;go_wp2_with fail;refine(Pw ⟨#[97]⟩ HABC.1 true w2 b ym nm _ _ V2 HFEW.1).mono ?_;rw[show Nn (Jz ⟨#[97]⟩ true Qjc []).1 (Jz ⟨#[97]⟩ true Qjc []).2=0 from HHOW.1];rintro e w3 ⟨rfl,v3,k3⟩;obtain⟨V3,B3⟩:=Zh2 (show Jp w3 b ym nm Hm.1 Hm.2 from v3) (B2.of_kept k3 λj hj=>Nat.le_trans B1.size (F2.o j hj));clear v3 k3;go_wp2_with fail;refine(Pw ⟨#[99]⟩ HABC.2.2 false w3 b ym nm _ _ V3 HFEW.2.1).mono ?_;rw[show Nn (Jz ⟨#[99]⟩ false Hm.1 Hm.2).1 (Jz ⟨#[99]⟩ false Hm.1 Hm.2).2=0 from HHOW.2.1];rintro e w4 ⟨rfl,v4,k4⟩;obtain⟨V4,B4⟩:=Zh2 (show Jp w4 b ym nm Ho.1 Ho.2 from v4) (B3.of_kept k4 λj hj=>Nat.le_trans B1.size (F2.o j hj));clear v4 k4;go_wp2_with fail;refine(Pw ⟨#[98]⟩ HABC.2.1 true w4 b ym nm _ _ V4 HFEW.2.2.1).mono ?_;rw[show Nn (Jz ⟨#[98]⟩ true Ho.1 Ho.2).1 (Jz ⟨#[98]⟩ true Ho.1 Ho.2).2=1 from HHOW.2.2.1];rintro e w5 ⟨rfl,v5,k5⟩;obtain⟨V5,B5⟩:=Zh2 (show Jp w5 b ym nm Hq.1 Hq.2 from v5) (B4.of_kept k5 λj hj=>Nat.le_trans B1.size (F2.o j hj));clear v5 k5;go_wp2_with fail;refine(Pw ⟨#[97]⟩ HABC.1 false w5 b ym nm _ _ V5 HFEW.2.2.2).mono ?_;rw[show Nn (Jz ⟨#[97]⟩ false Hq.1 Hq.2).1 (Jz ⟨#[97]⟩ false Hq.1 Hq.2).2=2 from HHOW.2.2.2.1];rintro e w6 ⟨rfl,v6,k6⟩;obtain⟨V6,B6⟩:=Zh2 (show Jp w6 b ym nm Qjd.1 Qjd.2 from v6) (B5.of_kept k6 λj hj=>Nat.le_trans B1.size (F2.o j hj));clear v6 k6;go_wp2_with fail;refine(Qdp (λ_=>False) w6 b ym nm _ _ V6).mono ?_;rw[HHOW.2.2.2.2];rintro e w7 ⟨ao,cap,ks,rfl,-,-,b7⟩;have B7:=Zh (B6.trans b7);clear b7;go_wp2_with fail;refine(Qcf w7 none 0 [] (Rd.nil _ _ _ none 0 (Nat.zero_le _)) (by simp) (λx hx=>by simp at hx)).mono ?_;rintro e w8 ⟨b',ym',nm',rfl,v8,b8,-⟩;obtain⟨V8,B8⟩:=Zh2 v8 (B7.trans b8);clear v8 b8;go_wp2_with fail;refine(Qar w8 b' ym' nm' _ _ V8).mono ?_;rw[show Qem (Yh []) []=1 from rfl];rintro e w9 ⟨rfl,b9⟩;have B9:=Zh (B8.trans b9);clear b9;go_wp2;go_ret;exact⟨rfl,B9⟩
def Yes(f:FuncId):Prop:=∀w:World,Calls prog f #[] w λe w'=>e=.returned (.bool true)/\Bel w w'
theorem Qq4:Yes 222:=λw=>by
 go_enter func222,ntmps222;go_wp2_with fail;refine(Qpg w).zR λa a=>?_
 have b:=Zh a;clear a;go_wp2;go_ret;exact⟨rfl,b⟩
theorem Qwv:Yes 57:=λw=>by
 go_enter func57,ntmps57;go_wp2_with fail;refine(Qmx w).zR λa a=>?_
 have b:=Zh a;clear a;go_wp2;go_ret;exact⟨rfl,b⟩
theorem Qo9(h6:Yes 221):Yes 136:=λw=>by
 have H6:=Zh h6;clear h6;have k5:i64 5:=by simp[i64]
 have k7:i64 7:=by simp[i64]
 have k9:i64 9:=by simp[i64]
 have kc:i64 12884901889:=by simp[i64]
 obtain⟨KK,HMK⟩:=Zh2 (And.intro k5 (And.intro k7 (And.intro k9 kc))) (show mk 3 (0+1)=12884901889 by decide +kernel);clear k5 k7 k9 kc;go_enter func136,ntmps136;go_wp2_with fail;refine(Qc8 w).mono ?_;rintro e w1 ⟨lb,lm,tb,tm,rfl,l1,b1,f1⟩;obtain⟨L1,B1,F1⟩:=Zh3 l1 b1 f1;clear l1 b1 f1;go_wp2_with fail;refine(Qnn 3 w1).mono ?_;rintro e w2 ⟨sb,im,ub,um,rfl,s2,b2,f2⟩;obtain⟨L2,S2,B2,F2⟩:=Zh4 (L1.bel b2) s2 (B1.trans b2) f2;have hw12:=b2.size;clear s2 b2 f2;go_wp2_with fail;refine(Qc9 7 KK.2.1 ⟨⟨#[113]⟩,⟨#[120]⟩⟩ w2 lb lm tb tm [] L2.o (by decide) (by decide)).mono ?_;rintro e w3 ⟨rfl,x1,hx1,l3,kp3,n3⟩;obtain⟨X1,L3,NL3,G3,S3,B3⟩:=Zh6 (show x1.g=⟨1,[⟨⟨#[113]⟩,⟨#[120]⟩⟩],0⟩ from hx1) (show Qy w3 lb lm tb tm [(7,x1)] from l3) (show ∀j,lkO lb lm tb tm [(7,x1)] j->j<w1.heap.size\/w2.heap.size<=j fromλj hj=>(F4 (L:=[]) (k:=7) n3 j hj).imp (λh=>L1.lt h) id) (show ∀j,lkO lb lm tb tm [(7,x1)] j->w.heap.size<=j fromλj hj=>(F4 (L:=[]) (k:=7) n3 j hj).elim (F1.o j) λh=>Nat.le_trans B2.size h) (S2.keep kp3 λk hk h=>by have:=F2.o k hk;have:=L1.lt h;omega) (B2.of_kept kp3 F1.o);have hw23:=kp3.size;clear hx1 l3 kp3 n3;go_wp2_with fail;refine(Qbs 5 KK.1 w3 lb lm tb tm [(7,x1)] L3.o (show(0:Int)<10 by decide) (show 1<100000 by decide)).mono ?_;rintro e w4 ⟨rfl,x2,hx2,l4,kp4,n4⟩;obtain⟨X2,L4,NL4,G4,DS⟩:=Zh5 (show x2.g=⟨1,[],0⟩ from hx2) (show Qy w4 lb lm tb tm [(5,x2),(7,x1)] from l4) (show ∀j,lkO lb lm tb tm [(5,x2),(7,x1)] j->j<w1.heap.size\/w2.heap.size<=j fromλj hj=>(F4 (L:=[(7,x1)]) (k:=5) n4 j hj).elim (NL3.o j) λh=>.inr (by omega)) (show ∀j,lkO lb lm tb tm [(5,x2),(7,x1)] j->w.heap.size<=j fromλj hj=>(F4 (L:=[(7,x1)]) (k:=5) n4 j hj).elim (G3.o j) λh=>Nat.le_trans B3.size h) (show ∀j,ssO sb im ub um j->w1.heap.size<=j/\j<w2.heap.size fromλj hj=>⟨F2.o j hj,S2.lt hj⟩);obtain⟨S4,B4⟩:=Zh2 (S3.keep kp4 λk hk h=>by have:=DS.o k hk;have:=NL3.o k h;omega) (B3.of_kept kp4 G3.o);clear hx2 l4 kp4 n4;go_wp2_with fail;refine(Ql2 w4 sb 3 0 im ub um [] S4.o (by decide) (by decide) (by decide)).mono ?_;rw[HMK.o];rintro e w5 ⟨rfl,s5,kp5⟩;obtain⟨S5,L5,B5⟩:=Zh3 (show Xf w5 sb 3 (0+1) im ub um [(12884901889,(0,0))] from s5) (L4.keep kp5 λk hk h=>by have:=DS.o k h;have:=NL4.o k hk;omega) (B4.of_kept kp5 λk hk=>Nat.le_trans B1.size (DS.o k hk).1);clear s5 kp5;go_wp2_with fail;refine(Ql1 12884901889 KK.2.2.2 9 KK.2.2.1 w5 sb 3 (0+1) im ub um _ S5.o (.inl (by decide)) 0 0 rfl).mono ?_;rintro e w6 ⟨rfl,s6,kp6⟩;obtain⟨S6,L6,B6⟩:=Zh3 (show Xf w6 sb 3 (0+1) im ub um [(12884901889,(9,0))] from s6) (L5.keep kp6 λk hk h=>by have:=DS.o k h;have:=NL4.o k hk;omega) (B5.of_kept kp6 λk hk=>Nat.le_trans B1.size (DS.o k hk).1);clear s6 kp6;go_wp2_with fail;refine(Qit 12884901889 KK.2.2.2 w6 sb 3 (0+1) im ub um _ S6 9 0 rfl).mono ?_;rintro e w7 ⟨rfl,s7,kp7⟩;obtain⟨S7,L7,B7⟩:=Zh3 (show Xf w7 sb 3 (0+1) im ub um [] from s7) (L6.keep kp7 λk hk h=>by have:=DS.o k h;have:=NL4.o k hk;omega) (B6.of_kept kp7 λk hk=>Nat.le_trans B1.size (DS.o k hk).1);clear s7 kp7;go_wp2_with fail;refine(H6 w7).zR λw8 b8=>?_
 have C8:=Zh b8;clear b8;go_wp2_with fail;refine(Qq4 w8).zR λw9 b9=>?_
 have C9:=Zh (C8.trans b9);clear b9;go_wp2_with fail;refine(Ko 7 KK.2.1 w9 lb lm tb tm _ (L7.bel C9)).mono ?_;rw[show nOf 7 [(5,x2),(7,x1)]=1 by show x1.g.n=1;rw[X1.o]];rintro e w10 ⟨rfl,rfl⟩;go_wp2_with fail;refine(D6 (λ_=>False) 7 KK.2.1 w9 lb lm tb tm _ (L7.bel C9)).mono ?_;rw[show Jd 7 [(5,x2),(7,x1)]=[⟨⟨#[113]⟩,⟨#[120]⟩⟩] by show x1.g.puts=_;rw[X1.o]];rintro e w10 ⟨ao,cap,rfl,-,b10⟩;have C10:=Zh (C9.trans b10);clear b10;go_wp2_with fail;refine(D6 (λ_=>False) 5 KK.1 w10 lb lm tb tm _ (L7.bel C10)).mono ?_;rw[show Jd 5 [(5,x2),(7,x1)]=[] by show x2.g.puts=_;rw[X2.o]];rintro e w11 ⟨ao2,cap2,rfl,-,b11⟩;have C11:=Zh (C10.trans b11);clear b11;go_wp2_with fail;refine(Mx (λ_=>False) w11 lb lm tb tm _ (L7.bel C11)).mono ?_;rintro e w12 ⟨ao3,cap3,rfl,-,b12⟩;have C12:=Zh (C11.trans b12);clear b12;go_wp2_with fail;refine(Mx (λ_=>False) w12 lb lm tb tm _ (L7.bel C12)).mono ?_;rintro e w13 ⟨ao4,cap4,rfl,o13,b13⟩;obtain⟨g,off,rfl,hg,d0⟩:=Yf o13.rd0 (show([(5,x2),(7,x1)].map (·.1))[0]?=some 5 from rfl);rw[Nat.add_zero]at d0;have C13:=Zh (C12.trans b13);clear b13 o13;go_wp2_with fail;refine(Qdc (λ_=>False) w13 lb lm tb tm _ (L7.bel C13)).mono ?_;rw[show K7 [(5,x2),(7,x1)]=[⟨⟨#[113]⟩,⟨#[120]⟩⟩] by show x2.g.puts++(x1.g.puts++[])=_;rw[X1.o,X2.o];rfl];rintro e w14 ⟨ao5,cap5,rfl,-,b14⟩;have C14:=Zh (C13.trans b14);clear b14 d0;go_wp2_with fail;refine(Wy KK.1 (L7.bel C14)).mono ?_;rintro e w15 ⟨rfl,l15,kp15⟩;obtain⟨L15,S15,B15⟩:=Zh3 (show Qy w15 lb lm tb tm [(7,x1)] from l15) ((S7.bel C14.o).keep kp15 λk hk h=>by have:=DS.o k hk;have:=NL4.o k h;omega) ((B7.trans C14.o).of_kept kp15 G4.o);clear l15 kp15;go_wp2_with fail;refine(Wy KK.1 L15).mono ?_;rintro e w16 ⟨rfl,l16,kp16⟩;obtain⟨L16,S16,B16⟩:=Zh3 (show Qy w16 lb lm tb tm [(7,x1)] from l16) (S15.keep kp16 λk hk h=>by have:=DS.o k hk;have:=NL3.o k h;omega) (B15.of_kept kp16 G3.o);clear l16 kp16;go_wp2_with fail;refine(Qk0 5 KK.1 w16 lb lm tb tm _ L16 rfl).zS ?_;go_wp2_with fail;refine(Qik 7 KK.2.1 w16 lb lm tb tm _ L16 x1 rfl).mono ?_;rintro e w17 ⟨rfl,l17,kp17⟩;obtain⟨S17,B17⟩:=Zh2 (S16.keep kp17 λk hk h=>by have:=DS.o k hk;have:=NL3.o k h;omega) (B16.of_kept kp17 G3.o);clear l17 kp17;go_wp2_with fail;refine(Qfy 9 w17 sb 3 (0+1) im ub um [] S17).mono ?_;rw[show ofS 9 []=0 from rfl];rintro e w18 ⟨rfl,b18⟩;have B18:=Zh (B17.trans b18);clear b18;go_wp2;go_ret;exact⟨rfl,B18⟩
end Go.Proofs.YtkdpmdfcdgphlaaGreat

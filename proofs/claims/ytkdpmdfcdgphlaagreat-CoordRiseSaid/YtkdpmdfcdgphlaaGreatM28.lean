/- Part of this claim's proof. Conditions: as its theorems say. -/
import Derived.Test.YtkdpmdfcdgphlaaGreatM27
set_option linter.all false
set_option maxHeartbeats 4000000
set_option maxRecDepth 100000
namespace Go.Po
open Go.Mem Go.Proofs.YtkdpmdfcdgphlaaGreat
theorem Ya(s:St)(r:Rec):(Qf s r).broker=s.broker:=by
 unfold Qf;repeat' split
 all_goals rfl
def Dz:St->List Rec->Prop
 | _,[]=>True
 | s,r::l=>Zf s r=0/\i64 r.tid/\i64 r.id/\Dz (Qf s r) l
theorem Dz.snoc:∀{l:List Rec} {s:St} {r:Rec},Dz s l->Zf (Ji s l) r=0->i64 r.tid->i64 r.id->Dz s (l++[r])
 | [],_,_,_,h,ht,hi=>⟨h,ht,hi,trivial⟩
 | _::_,_,_,h,hc,ht,hi=>⟨h.1,h.2.1,h.2.2.1,h.2.2.2.snoc hc ht hi⟩
theorem Dz.take:∀{l:List Rec} {s:St} (k:Nat),Dz s l->Dz s (l.take k)
 | [],_,_,_=>by simp[Dz]
 | _::_,_,0,_=>by simp[Dz]
 | _::_,_,k+1,h=>by rw[List.take_succ_cons];exact⟨h.1,h.2.1,h.2.2.1,h.2.2.2.take k⟩
theorem Dz.run:∀{l:List Rec} {s:St} {n:Nat},Good s->Fit n s->n+l.length<200->Dz s l->Qab s l/\Good (Ji s l)/\Fit (n+l.length) (Ji s l)
 | [],_,_,g,f,_,_=>⟨trivial,g,f⟩
 | r::l,s,n,g,f,hn,h=>by
  rw[List.length_cons]at hn ⊢;have few:=f.few (by omega);obtain⟨a,b,c⟩:=Dz.run (Vx g h.1 few) (Ue f r) (by omega) h.2.2.2;exact⟨⟨h.1,h.2.1,h.2.2.1,g.may,few,a⟩,b,by rw[show n+(l.length+1)=n+1+l.length by omega];exact c⟩
theorem P6:∀(l:List Rec) (s:St),(Ji s l).broker=s.broker
 | [],_=>rfl
 | r::l,s=>(P6 l (Qf s r)).trans (Ya s r)
def Lo(s:St)(t:Int):Prop:=Zw t=true/\Jj s t=false/\Vs s t=false/\Dw s t=false
theorem Lo.can{s:St}{t:Int}(h:Lo s t):Zf s (J8 t)=0:=by
 obtain⟨a,b,c,d⟩:=h;have j:Qp (J8 t)=true:=by
  rw[Dn];refine⟨by simp[J8],a,rfl,rfl,rfl,?_,rfl⟩;show(0:Int)<=Jw 3;decide
 unfold Zf;rw[if_neg (by simp[j]),if_neg (by simp[J8,d])];have g:J3 s (J8 t)=false:=rfl;have i:Zy s (J8 t)=false:=by simp[Zy,J8,b,c]
 have e:Kc s (J8 t)=false:=rfl;have f:Jf s (J8 t)=false:=rfl;rw[g,i,e,f];rfl
theorem Lo.step{s:St}{t b:Int}(h:Lo s b)(i:b≠t):Lo (Qf s (J8 t)) b:=by
 obtain⟨g,c,d,f⟩:=h;have e:Qf s (J8 t)=Qr s t false []:=rfl;refine⟨g,?_,?_,?_⟩<;>rw[e]
 ·rw[Qdk,Kj]at c ⊢
  exactλx a=>c x (List.mem_filter.1 a).1
 ·rw[Qqf,Kj]at d ⊢
  exactλx a=>d x (List.mem_filter.1 a).1
 ·rw[Qqe,Kj]at f ⊢
  intro x a;have j:x∈Cv (λp:Fin=>p.tid) ⟨t,false⟩ s.ends:=a;rcases Um.1 j with rfl|a
  ·exactλe=>i e.symm
  ·exact f x a
theorem Qgt{t:Int}(h:Zw t=true):i64 t:=by
 have a:0<home t:=by simpa[Zw] using h
 unfold home at a;simp only[i64];by_cases b:4294967296<t/\t<38654705664/\t % 4294967296≠0
 ·omega
 ·rw[if_neg b]at a;omega
theorem Quu{s:St}(m:May s){t:Int}(h:t∈J5 s):Lo s t:=by
 rw[J5,D9,sortI,List.mem_mergeSort,Xr]at h;obtain⟨x,b,rfl⟩:=List.mem_map.1 h;obtain⟨b,a⟩:=List.mem_filter.1 b;simp only[Qbt,Bool.and_eq_true,Bool.not_eq_true',beq_eq_false_iff_ne]at a;have d:=(Yb.1 (m.ms x b)).2.2.2.2.1;rcases d with c|⟨h1,h2⟩
 ·exact absurd c a.1.1
 ·exact⟨h1,a.1.2,a.2,h2⟩
theorem Qna(s:St):(J5 s).Nodup:=by
 refine F5 (le:=(·<=·)) (λa b d e=>Int.le_antisymm d e) ?_;have:=List.pairwise_mergeSort (le:=λx y:Int=>decide (x<=y)) (λa b c d e=>by simp only[decide_eq_true_eq]at *;omega) (λa b=>by simp only[Bool.or_eq_true,decide_eq_true_eq];omega) (Xr s s.ms);exact this.imp λh=>by simpa using h
def Bg(s:St):St:=Ji s ((J5 s).map J8)
structure Bud(n:Nat)(v:Vw)(last:Nat)(all:List (List UInt8)):Prop where
 last:last<=n
 few:v.length<=n+3
 used:used v<=1006*n
 all:all.length<=n
theorem Bud.mono{n m:Nat}{v:Vw}{last:Nat}{all:List (List UInt8)}(h:Bud n v last all)(a:n<=m):Bud m v last all:=⟨by have:=h.last;omega,by have:=h.few;omega,by have:=h.used;omega,by have:=h.all;omega⟩
theorem Qgu(s:ByteArray)(bs:List UInt8)(v:Vw):(Xi s bs v).length<=v.length+1:=by
 unfold Xi;split
 ·exact by show(Yz s _ (Qx s v)).length<=_;rw[(Da s _ (Qx s v)).length_eq,List.length_cons];have:=(Bb s v).length_le;omega
 ·simp[X6]
theorem Qec{s:ByteArray}{bs:List UInt8}{v:Vw}(h:(v.map λx=>x.1).Nodup):used (Xi s bs v)<=used v+bs.length:=by
 unfold Xi;rcases a:Qg s v with _|f
 ·rw[Ub (Qbh a _)];simp[used];omega
 ·exact Py h
theorem Qcn{k:ByteArray}{v:Vw}(h:(v.map λx=>x.1).Nodup):((Zg k v).map λx=>x.1).Nodup:=Qe4 h
theorem Quv{n:Nat}{v:Vw}{last:Nat}{all:List (List UInt8)}(h:Bud n v last all)(a:(v.map λx=>x.1).Nodup){bs:List UInt8}(f:bs.length<=1000):Bud (n+1) (Hu v last bs) (addN v last) (all++[bs]):=by
 have b:=h.last;have c:=h.few;have d:=h.used;have e:=h.all;refine⟨by have:=Qgq v last;omega,?_,?_,by rw[List.length_append];simp;omega⟩
 ·unfold Hu
  split
  ·have:=Qgu (Qe (last+1)) (Z7 bs) (Zg (Qe last) v);rw[Dm]at this;omega
  ·have:=Qgu (Qe last) (Z7 bs) v;omega
 ·have g:=Jn bs
  unfold Hu;split
  ·have:=Qec (s:=Qe (last+1)) (bs:=Z7 bs) (Qcn (k:=Qe last) a);rw[Bn]at this;omega
  ·have:=Qec (s:=Qe last) (bs:=Z7 bs) a;omega
theorem Qe8{n:Nat}{v:Vw}{last:Nat}{all:List (List UInt8)}(h:Bud n v last all)(c:(v.map λx=>x.1).Nodup){bs:List UInt8}(b:bs.length<=1000)(force:Bool):Bud (n+1) (G8 force v last bs) (addN v last) (all++[bs]):=by
 have a:=Quv h c b;unfold G8;split
 ·exact⟨a.last,by rw[Dm];exact a.few,by rw[Bn];exact a.used,a.all⟩
 ·exact a
def Ct(n:Nat)(v:Vw)(last:Nat)(s:St)(l:List St):Prop:=
 ∃s0 frm old cur sure rs n0,Be v s.broker s0 frm last old cur sure/\Good s0/\Fit n0 s0/\n0+rs.length<=n/\old.flatten++cur=rs.map encR/\Dz s0 rs/\Ji s0 rs=s/\∀j,old.flatten.length+sure<=j->j<=rs.length->Ji s0 (rs.take j)∈l
theorem Qe9{n:Nat}{v:Vw}{last:Nat}{s:St}{l:List St}(h:Ct n v last s l)(k:last<=999):Ct n (Zg (Qe last) v) last s [s]:=by
 obtain⟨s0,frm,old,c,r,o,m,d,e,f,g,a,i,b,p⟩:=h;refine⟨s0,frm,old,c,_,o,m,Qbm d k,e,f,g,a,i,b,λj q q=>?_⟩;have:=congrArg List.length a;rw[List.length_append,List.length_map]at this;rw[List.take_of_length_le (by omega),b];simp
theorem Quw{n:Nat}{v:Vw}{last:Nat}{s:St}{l:List St}(h:Ct n v last s l)(t:last<999){r:Rec}(c:Zf s r=0)(w:i64 r.tid)(q:i64 r.id):Ct (n+1) (Hu v last (encR r)) (addN v last) (Qf s r) (l++[Qf s r]):=by
 obtain⟨s0,frm,old,A,C,e,x,g,i,k,B,m,o,a,p⟩:=h;obtain⟨y,f,z,k1,k2,k3⟩:=Quo g t (Mq (Dp c).1);refine⟨s0,frm,y,f,z,e++[r],x,by rw[Ya];exact k1,i,k,by simp;omega,by rw[k2,m];simp,o.snoc (a▸c) w q,by rw[Qbw,a],λj b d=>?_⟩;rw[List.length_append]at d;rcases Nat.lt_or_ge e.length j with b|b
 ·rw[List.take_of_length_le (by simp at d ⊢;omega),Qbw,a];simp
 ·rw[List.take_append_of_le_length b]
  exact List.mem_append_left _ (p j (by omega) b)
theorem Qfa{n:Nat}{v:Vw}{last:Nat}{s:St}{l:List St}(h:Ct n v last s l)(d:last<999){r:Rec}(b:Zf s r=0)(e:i64 r.tid)(c:i64 r.id)(force:Bool):Ct (n+1) (G8 force v last (encR r)) (addN v last) (Qf s r) (if force=true then [Qf s r] else l++[Qf s r]):=by
 have a:=Quw h d b e c;unfold G8;cases force
 ·exact a
 ·exact Qe9 a (by have:=Qgq v last;omega)
theorem Ct.mono{n m:Nat}{v:Vw}{last:Nat}{s:St}{l a:List St}(h:Ct n v last s l)(z:n<=m)(o:∀x∈l,x∈a):Ct m v last s a:=by
 obtain⟨s0,frm,old,b,w,t,r,c,d,e,y,f,g,i,k⟩:=h;exact⟨s0,frm,old,b,w,t,r,c,d,e,by omega,f,g,i,λj p q=>o _ (k j p q)⟩
theorem Ct.nm{n:Nat}{v:Vw}{last:Nat}{s:St}{l:List St}(h:Ct n v last s l):(v.map λx=>x.1).Nodup:=by
 obtain⟨s0,frm,old,b,e,d,c,a,_⟩:=h;exact a.nm
end Go.Po
namespace Go.Proofs.YtkdpmdfcdgphlaaGreat
open Tryz
open Go.RowKit Go.Mem Go.Po
structure Kq(n:Nat)(A O:Nat->Prop)(w:World)(kb db:Nat)(l:List St)(s:St):Prop where
 ex:∃v last all,KAt A O w kb db 1048576 v last all s/\Bud n v last all/\Ct n v last s l
 good:Go.Po.Good s
 fit:Fit n s
section
variable {n : Nat} {A B O S : Nat → Prop} {w w' : World} {kb db : Nat} {l : List St} {s : St}
theorem Kq.lt(h:Kq n A O w kb db l s):∀k,O k->k<w.heap.size:=by obtain⟨v,last,all,a,_⟩:=h.ex;exact a.lt
theorem Kq.oa(h:Kq n A O w kb db l s):∀k,O k->A k:=by obtain⟨v,last,all,a,_⟩:=h.ex;exact a.oa
theorem Kq.keep(h:Kq n A O w kb db l s)(f:Kept S w w')(e:∀k,O k->¬S k)(g:∀k,S k->A k)(c:∀k,k<w.heap.size->B k->A k)(d:∀k,O k->B k):Kq n B O w' kb db l s:=by
 obtain⟨v,last,all,a,b⟩:=h.ex;exact⟨⟨v,last,all,a.keep f e g c d,b⟩,h.good,h.fit⟩
theorem Kq.bel(h:Kq n A O w kb db l s)(a:Bel w w'):Kq n A O w' kb db l s:=
 h.keep (a.kept λ_=>False) (λ_ _ h=>h) (λ_ h=>h.elim) (λ_ _ h=>h) h.oa
theorem Kq.mono(h:Kq n A O w kb db l s)(a:∀k,k<w.heap.size->B k->A k)(b:∀k,O k->B k):Kq n B O w kb db l s:=
 h.keep (Kept.refl (λ_=>False) w) (λ_ _ h=>h) (λ_ h=>h.elim) a b
theorem Kq.more(h:Kq n A O w kb db l s){m:Nat}(a:n<=m):Kq m A O w kb db l s:=by
 obtain⟨v,last,all,b,c,d⟩:=h.ex;exact⟨⟨v,last,all,b,c.mono a,d.mono a λ_ h=>h⟩,h.good,h.fit.mono a⟩
theorem Kq.few(h:Kq n A O w kb db l s)(a:n<200):Few s:=h.fit.few a
theorem Qy7(h:Kq n A O w kb db l s):Calls prog 47 #[.pointer (some ⟨kb,0,none⟩)] w λe w'=>e=.returned (.bool false)/\w=w':=by
 obtain⟨v,last,all,a,_⟩:=h.ex;exact Cj a
theorem Ve(h:Kq n A O w kb db l s):Calls prog 23 #[.pointer (some ⟨kb,0,none⟩)] w λe w'=>∃i b o f g a m d j c,e=.returned (.agg #[.int .i64 s.broker,.int .i64 s.nextId,.int .i64 s.nextSeq,.int .i64 s.tx,.slice i s.ms.length b,.slice o s.waits.length f,.slice g s.ends.length a,.slice m s.opens.length d,.slice j s.noes.length c])/\StR (λk=>k<w.heap.size) w' s i b o f g a m d j c/\Bel w w':=by
 obtain⟨v,last,all,a,_⟩:=h.ex;exact Qiu a h.good.may
theorem Qfb(h:Kq n A O w kb db l s)(i:n<200)(r:Rec)(rp:Option Addr)(a:Nat)(c:Option Addr)(b:Nat)(m:i64 r.tid)(g:i64 r.id)(j:Rd Qh A w rp a r.parts)(o:Rd Qw A w c b r.puts)(k:∀p∈r.puts,p.q.size<=maxLen)(force:Bool)(f:Zf s r≠0):
 Calls prog 63 #[.pointer (some ⟨kb,0,none⟩),.agg #[.int .i64 r.kind,.int .i64 r.tid,.int .i64 r.id,.bool r.yes,.slice rp r.parts.length a,.slice c r.puts.length b],.bool force] w λe w'=>e=.returned (.int .i64 (Zf s r))/\Bel w w':=by
 obtain⟨v,last,all,d,_⟩:=h.ex;exact Qkn d h.good.may (h.few i) r rp a c b m g j o k force f
theorem Uj(h:Kq n A O w kb db l s)(p:∀k,A k->k<w.heap.size)(C:n<199)(r:Rec)(rp:Option Addr)(d:Nat)(g:Option Addr)(f:Nat)(m:i64 r.tid)(j:i64 r.id)(t:Rd Qh A w rp d r.parts)(x:Rd Qw A w g f r.puts)(force:Bool)(c:Zf s r=0):
 Calls prog 63 #[.pointer (some ⟨kb,0,none⟩),.agg #[.int .i64 r.kind,.int .i64 r.tid,.int .i64 r.id,.bool r.yes,.slice rp r.parts.length d,.slice g r.puts.length f],.bool force] w λe w'=>e=.returned (.int .i64 0)/\∃a,Kq (n+1) (λk=>A k\/a k) a w' kb db (if force=true then [Qf s r] else l++[Qf s r]) (Qf s r)/\Kept O w w'/\∀k,a k->O k\/w.heap.size<=k:=by
 obtain⟨v,last,all,o,b,i⟩:=h.ex;have y:=b.last;have b2:=b.few;have z:=b.used;have B:=b.all;have q:=Jr (Dp c).1;refine(Qbp o p h.good.may (h.few (by omega)) r rp d g f m j t x force c (by omega) (by omega) (by omega) (by omega)).mono ?_;rintro e w' ⟨rfl,a,k1,k2,k3⟩;exact⟨rfl,a,⟨⟨_,_,_,k1,Qe8 b i.nm q force,Qfa i (by omega) c m j force⟩,Vx h.good c (h.few (by omega)),Ue h.fit r⟩,k2,k3⟩
end
theorem Qfc:∀(a:List Int) (x:Kp) (N:Nat) (l:List St),Bud N x.v x.last x.all->Ct N x.v x.last x.s l->Go.Po.Good x.s->Fit N x.s->(∀t∈a,Lo x.s t)->a.Nodup->N+a.length<199 →
 Ru 1048576 x a/\Bud (N+a.length) (x.backs a).v (x.backs a).last (x.backs a).all/\(∃b,Ct (N+a.length) (x.backs a).v (x.backs a).last (x.backs a).s b)/\(x.backs a).s=Ji x.s (a.map J8)/\Go.Po.Good (x.backs a).s/\Fit (N+a.length) (x.backs a).s
 | [],x,N,l,hb,ht,g,f,_,_,_=>⟨trivial,hb,⟨l,ht⟩,rfl,g,f⟩
 | t::a,x,N,l,hb,ht,g,f,hl,hn,hN=>by
  rw[List.length_cons]at hN ⊢;rw[List.nodup_cons]at hn;have b:=hl t (by simp);have few:=f.few (show N<200 by omega);have d:=Jr (Dp b.can).1;have n:=hb.last;have b2:=hb.few;have o:=hb.used;have p:=hb.all;have h:i64 (J8 t).id:=by simp[J8,i64]
  obtain⟨k1,k2,k3,i,j,k⟩:=Qfc a (x.write false (J8 t)) (N+1) _ (Qe8 hb ht.nm d false) (Qfa ht (by omega) b.can (Qgt b.1) h false) (Vx g b.can few) (Ue f (J8 t)) (λm c=>(hl m (by simp[c])).step λe=>hn.1 (e▸c)) hn.2 (by omega);rw[show N+(a.length+1)=N+1+a.length by omega];exact⟨⟨⟨by omega,by omega,by omega,by omega,g.may,few⟩,Qgt b.1,b.can,k1⟩,k2,k3,i,j,k⟩
theorem Qog(A g:Nat->Prop)(w:World)(B:∀k,A k->k<w.heap.size)(db:Nat)(v:Vw)(s:Dk A g w db 1048576 v)(b:Int)(E:Qz b=true)(s0:St)(frm last:Nat)(all:List (List UInt8))(f:Te v b s0 frm last all)(l:Go.Po.Good s0)(m:Nat)(o:Fit m s0)
 (a:List Rec) (h:all=a.map encR) (p:Dz s0 a) (N:Nat) (F:last<=N) (i:v.length<=N+2) (d:used v<=1006*N) (G:m+a.length<=N) (C:N+(J5 (Ji s0 a)).length<199):
 Calls prog 36 #[.pointer (some ⟨db,0,none⟩),.int .i64 b] w λe w'=>∃kb c,e=.returned (.tuple #[.pointer (some ⟨kb,0,none⟩),.int .i64 0])/\Kq (N+(J5 (Ji s0 a)).length) (λk=>A k\/c k) c w' kb db [Bg (Ji s0 a)] (Bg (Ji s0 a))/\Kept g w w'/\∀k,c k->g k\/w.heap.size<=k:=by
 obtain⟨M,n,O⟩:=p.run l o (by omega);obtain⟨old,i,L,q⟩:=f.hold;have D:s0.broker=b:=by
  rcases f.st with⟨_,_,d⟩|⟨_,_,_,d⟩
  ·rw[d];rfl
  ·exact d
 have S:old.flatten.length+i.length=a.length:=by
  have:=congrArg List.length (q.trans h);rwa [List.length_append,List.length_map]at this
 have R:all.length=a.length:=by rw[h,List.length_map]
 have V:=f.use;have W:=f.len;have r:Bud N (Je v last) last all:=⟨F,by omega,by omega,by omega⟩;have P:Ct N (Je v last) last (Ji s0 a) [Ji s0 a]:=⟨s0,frm,old,i,i.length,a,m,by rw[P6,D];exact L,l,o,G,q.trans h,p,rfl,λj y y=>by rw[List.take_of_length_le (by omega)];simp⟩;obtain⟨k1,k2,⟨U,k3⟩,H,J,K⟩:=Qfc (J5 (Ji s0 a)) ⟨Je v last,last,all,Ji s0 a⟩ N _ r P n (O.mono (by omega)) (λt y=>Quu n.may y) (Qna _) C;have T:=k2.last;refine(Qlf A g w B db 1048576 v s b E s0 l.may frm last all f (by omega) (by omega) a h M (by omega) n.may k1 _ rfl (by omega)).mono ?_;rintro e w' ⟨kb,c,rfl,y,z,d⟩;have Q:∀x:Kp,x.force.s=x.s/\x.force.all=x.all/\x.force.last=x.last:=λ_=>⟨rfl,rfl,rfl⟩
 have I:(Kp.backs ⟨Je v last,last,all,Ji s0 a⟩ (J5 (Ji s0 a))).s=Bg (Ji s0 a):=H;rw[<-I];exact⟨kb,c,rfl,⟨⟨_,_,_,y,⟨k2.last,by show(Zg _ _).length<=_;rw[Dm];exact k2.few,by show used (Zg _ _)<=_;rw[Bn];exact k2.used,k2.all⟩,Qe9 k3 (by omega)⟩,J,K⟩,z,d⟩
theorem Qbq(b:Int):J5 (Z8 b)=[]:=List.eq_nil_of_length_eq_zero (Nat.le_zero.1 (Qac (Z8 b)))
theorem Qrz(b:Int):Bg (Z8 b)=Z8 b:=by rw[Bg,Qbq];rfl
theorem Qr0(A a:Nat->Prop)(w:World)(f:∀k,A k->k<w.heap.size)(db:Nat)(h:Dk A a w db 1048576 [])(b:Int)(d:Qz b=true):
 Calls prog 36 #[.pointer (some ⟨db,0,none⟩),.int .i64 b] w λe w'=>∃kb c,e=.returned (.tuple #[.pointer (some ⟨kb,0,none⟩),.int .i64 0])/\Kq 0 (λk=>A k\/c k) c w' kb db [Z8 b] (Z8 b)/\Kept a w w'/\∀k,c k->a k\/w.heap.size<=k:=by
 have:=Qog A a w f db [] h b d (Z8 b) 0 0 [] (Qhn b) (Qlx d) 0 (Qoq b) [] rfl trivial 0 (Nat.le_refl _) (by simp) (by simp[used]) (Nat.le_refl _) (by rw[show Ji (Z8 b) []=Z8 b from rfl,Qbq];simp);rw[show Ji (Z8 b) []=Z8 b from rfl,Qbq,Qrz]at this;exact this
theorem Qoh{n:Nat}{h i:Nat->Prop}{w0:World}{H j:Nat}{l:List St}{s:St}(o:Kq n h i w0 H j l s)(ab:n+72<198)(m:Int):
 ∃v,(∃a,Dk h a w0 j 1048576 v/\∀k,a k->i k)/\∀(A a:Nat->Prop) (w:World) (db:Nat) (b:Vw),(∀k,A k->k<w.heap.size)->Dk A a w db 1048576 b->b.Perm (Jm m v) →
 Calls prog 36 #[.pointer (some ⟨db,0,none⟩),.int .i64 s.broker] w λe w'=>∃kb c d,e=.returned (.tuple #[.pointer (some ⟨kb,0,none⟩),.int .i64 0])/\d∈l/\Kq (n+1+(J5 d).length) (λk=>A k\/c k) c w' kb db [Bg d] (Bg d)/\Kept a w w'/\∀k,c k->a k\/w.heap.size<=k:=by
 obtain⟨v,last,all,y,f,z⟩:=o.ex;obtain⟨⟨af,t,R,T,au,ao,ay,aq,ar,an,aw,ap,av,sN,W,E,ac,aj,ak,G⟩,V⟩:=y;refine⟨v,⟨t,E.d,λk d=>(G k).2 (.inr (.inl d))⟩,λA a w db b B D g=>?_⟩;obtain⟨s0,frm,old,x,ax,d,L,O,p,t3,az,q,r,P,Q⟩:=z;have S:=f.last;have b2:=f.few;have U:=f.used;obtain⟨I,M,ah,J,ai,K⟩:=Qho O (by omega) m g;have Y:(old.flatten++x).length=d.length:=by rw[q,List.length_map]
 have C:M<=d.length:=by omega
 have F:=Q M J C;obtain⟨al,N,am⟩:=(r.take M).run p t3 (by rw[List.length_take];omega);have aa:=N.may.few;have Z:=Qac (Ji s0 (d.take M));have ae:b.length<=v.length:=by rw[g.length_eq];simp[Jm];exact List.length_filter_le _ _
 have ad:used b<=used v:=by rw[Ub g];exact Ny m v
 have X:s0.broker=s.broker:=by rw[<-P,P6]
 have g:=o.good.may.broker;refine(Qog A a w B db b D s.broker g s0 frm I _ K p L t3 (d.take M) (by rw[q,List.map_take]) (r.take M) (n+1) (by omega) (by omega) (by omega) (by rw[List.length_take];omega) (by omega)).mono ?_;rintro e w' ⟨kb,c,rfl,k1,k2,k3⟩;exact⟨kb,c,_,rfl,F,k1,k2,k3⟩
theorem Qf5(x:Branch)(ao:Option Addr)(cap:Nat)(t:Int)(b:Nat)(W:World)(c:W.cell? ⟨b,0,none⟩=some (.int .i64 t)):Calls prog 148 (#[.agg #[.int .i64 x.tid,.slice ao x.puts.length cap]]++#[.pointer (some ⟨b,0,none⟩)]) W λe a=>e=.returned (.bool (x.tid==t))/\Bel W a:=by
 have a:=Zd c;show Calls prog 148 #[.agg #[.int .i64 x.tid,.slice ao x.puts.length cap],.pointer (some ⟨b,0,none⟩)] W _;go_enter func148,ntmps148;go_wp2;go_ret;exact⟨rfl,(Bel.refl W).alloc _⟩
theorem Qs0:∀a w,(callFunc 148 a).run prog w=.ok (.enter 148 a) w:=enters_of func148 (by kernel_rfl) rfl
theorem Qf6(x:Fin)(ao:Option Addr)(cap:Nat)(t:Int)(b:Nat)(W:World)(c:W.cell? ⟨b,0,none⟩=some (.int .i64 t)):Calls prog 150 (#[.agg #[.int .i64 x.tid,.bool x.yes]]++#[.pointer (some ⟨b,0,none⟩)]) W λe a=>e=.returned (.bool (x.tid==t))/\Bel W a:=by
 have a:=Zd c;show Calls prog 150 #[.agg #[.int .i64 x.tid,.bool x.yes],.pointer (some ⟨b,0,none⟩)] W _;go_enter func150,ntmps150;go_wp2;go_ret;exact⟨rfl,(Bel.refl W).alloc _⟩
theorem Qs1:∀a w,(callFunc 150 a).run prog w=.ok (.enter 150 a) w:=enters_of func150 (by kernel_rfl) rfl
theorem Qs2(x:Qv)(ao:Option Addr)(cap:Nat)(t:Int)(b:Nat)(W:World)(c:W.cell? ⟨b,0,none⟩=some (.int .i64 t)):Calls prog 140 (#[.agg #[.int .i64 x.tid,.slice ao x.parts.length cap]]++#[.pointer (some ⟨b,0,none⟩)]) W λe a=>e=.returned (.bool (x.tid==t))/\Bel W a:=by
 have a:=Zd c;show Calls prog 140 #[.agg #[.int .i64 x.tid,.slice ao x.parts.length cap],.pointer (some ⟨b,0,none⟩)] W _;go_enter func140,ntmps140;go_wp2;go_ret;exact⟨rfl,(Bel.refl W).alloc _⟩
theorem Qvw:∀a w,(callFunc 140 a).run prog w=.ok (.enter 140 a) w:=enters_of func140 (by kernel_rfl) rfl
theorem Qs3(x:Qv)(ao:Option Addr)(cap:Nat)(t:Int)(b:Nat)(W:World)(c:W.cell? ⟨b,0,none⟩=some (.int .i64 t)):Calls prog 162 (#[.agg #[.int .i64 x.tid,.slice ao x.parts.length cap]]++#[.pointer (some ⟨b,0,none⟩)]) W λe a=>e=.returned (.bool (x.tid==t))/\Bel W a:=by
 have a:=Zd c;show Calls prog 162 #[.agg #[.int .i64 x.tid,.slice ao x.parts.length cap],.pointer (some ⟨b,0,none⟩)] W _;go_enter func162,ntmps162;go_wp2;go_ret;exact⟨rfl,(Bel.refl W).alloc _⟩
theorem Qvx:∀a w,(callFunc 162 a).run prog w=.ok (.enter 162 a) w:=enters_of func162 (by kernel_rfl) rfl
theorem Qs4(x:Fin)(ao:Option Addr)(cap:Nat)(t:Int)(b:Nat)(W:World)(c:W.cell? ⟨b,0,none⟩=some (.int .i64 t)):Calls prog 160 (#[.agg #[.int .i64 x.tid,.bool x.yes]]++#[.pointer (some ⟨b,0,none⟩)]) W λe a=>e=.returned (.bool (x.tid==t))/\Bel W a:=by
 have a:=Zd c;show Calls prog 160 #[.agg #[.int .i64 x.tid,.bool x.yes],.pointer (some ⟨b,0,none⟩)] W _;go_enter func160,ntmps160;go_wp2;go_ret;exact⟨rfl,(Bel.refl W).alloc _⟩
theorem Qvy:∀a w,(callFunc 160 a).run prog w=.ok (.enter 160 a) w:=enters_of func160 (by kernel_rfl) rfl
theorem Qs5(x:Branch)(ao:Option Addr)(cap:Nat)(t:Int)(b:Nat)(W:World)(c:W.cell? ⟨b,0,none⟩=some (.int .i64 t)):Calls prog 91 (#[.agg #[.int .i64 x.tid,.slice ao x.puts.length cap]]++#[.pointer (some ⟨b,0,none⟩)]) W λe a=>e=.returned (.bool (x.tid==t))/\Bel W a:=by
 have a:=Zd c;show Calls prog 91 #[.agg #[.int .i64 x.tid,.slice ao x.puts.length cap],.pointer (some ⟨b,0,none⟩)] W _;go_enter func91,ntmps91;go_wp2;go_ret;exact⟨rfl,(Bel.refl W).alloc _⟩
theorem Qvz:∀a w,(callFunc 91 a).run prog w=.ok (.enter 91 a) w:=enters_of func91 (by kernel_rfl) rfl
theorem Qs6:(∀(s:St) (i:Option Addr) (g:Nat) (d:Option Addr) (b:Nat) (c:Option Addr) (a:Nat) (k:Option Addr) (h:Nat) (j:Option Addr) (sN:Nat) (t:Int) (A:Nat->Prop) (w:World) (m:StR A w s i g d b c a k h j sN),Calls prog 65 #[.agg #[.int .i64 s.broker,.int .i64 s.nextId,.int .i64 s.nextSeq,.int .i64 s.tx,.slice i s.ms.length g,.slice d s.waits.length b,.slice c s.ends.length a,.slice k s.opens.length h,.slice j s.noes.length sN],.int .i64 t] w λe w'=>e=.returned (.bool (Qt (λx=>x.tid) t s.waits))/\Bel w w') ∧
 (∀(s:St) (i:Option Addr) (g:Nat) (d:Option Addr) (b:Nat) (c:Option Addr) (a:Nat) (k:Option Addr) (h:Nat) (j:Option Addr) (sN:Nat) (t:Int) (A:Nat->Prop) (w:World) (m:StR A w s i g d b c a k h j sN),Calls prog 66 #[.agg #[.int .i64 s.broker,.int .i64 s.nextId,.int .i64 s.nextSeq,.int .i64 s.tx,.slice i s.ms.length g,.slice d s.waits.length b,.slice c s.ends.length a,.slice k s.opens.length h,.slice j s.noes.length sN],.int .i64 t] w λe w'=>e=.returned (.bool (Qt (λx=>x.tid) t s.ends))/\Bel w w'):=by
 refine⟨have k1:=trivial;?_,have k2:=trivial;?_⟩;all_goals
  intro s i g d b c a k h j sN t A w m;obtain⟨f,n⟩:=Zx ((w.alloc (.cells #[.int .i64 s.broker,.int .i64 s.nextId,.int .i64 s.nextSeq,.int .i64 s.tx,.slice i s.ms.length g,.slice d s.waits.length b,.slice c s.ends.length a,.slice k s.opens.length h,.slice j s.noes.length sN] 43)).alloc (.cells #[.int .i64 t] 2));have o:=n▸((Bel.refl w).alloc _).alloc _;have v:f.heap[w.heap.size]?=some (.cells #[.int .i64 s.broker,.int .i64 s.nextId,.int .i64 s.nextSeq,.int .i64 s.tx,.slice i s.ms.length g,.slice d s.waits.length b,.slice c s.ends.length a,.slice k s.opens.length h,.slice j s.noes.length sN] 43 (0,0)):=by rw[n];exact Ke _ _ _
  have l:f.heap[w.heap.size+1]?=some (.cells #[.int .i64 t] 2 (0,0)):=by rw[n];exact Jc _ _ _
  have y:=Qb l;first
   | (have k2:=k2
      have q:=Zh (Qxt (λx=>x.tid==t) 150 #[.pointer (some ⟨w.heap.size+1,0,none⟩)] Qs1 A f c a s.ends (m.ends.bel o) (by
       intros;first|exact Qf6 _ _ _ t _ _ ((‹Bel f _›).cell (cell_of_block l 0 _ rfl))|exact Qf6 _ none 0 t _ _ ((‹Bel f _›).cell (cell_of_block l 0 _ rfl)))))
   | (have q:=Zh (Tg (λx=>x.tid==t) 148 #[.pointer (some ⟨w.heap.size+1,0,none⟩)] Qs0 A f d b s.waits (m.waits.bel o) (by
       intros;first|exact Qf5 _ _ _ t _ _ ((‹Bel f _›).cell (cell_of_block l 0 _ rfl))|exact Qf5 _ none 0 t _ _ ((‹Bel f _›).cell (cell_of_block l 0 _ rfl)))))
  obtain⟨p,r⟩:=Zh2 n o;clear n o l m;first|(have k2:=k2;go_enter func66,ntmps66)|(go_enter func65,ntmps65)
  go_wp2_with fail;refine(p.o▸q.o).zR λl l=>?_
  have m:=Zh l;clear l v;go_wp2;go_ret;exact⟨rfl,r.trans (p.o▸m.o)⟩
def Qb3:=Qs6.1
def Qan:=Qs6.2
def Gu(s:St)(t:Int):Bool:=Qt (λx:Qv=>x.tid) t s.opens||Qt (λx:Branch=>x.tid) t s.waits||Qt (λx:Fin=>x.tid) t s.ends
theorem Qej(s:St)(j:Option Addr)(g:Nat)(l:Option Addr)(h:Nat)(i:Option Addr)(f:Nat)(c:Option Addr)(b:Nat)(k:Option Addr)(sN:Nat)(t:Int)(A:Nat->Prop)(w:World)(o:StR A w s j g l h i f c b k sN):
 Calls prog 60 #[.agg #[.int .i64 s.broker,.int .i64 s.nextId,.int .i64 s.nextSeq,.int .i64 s.tx,.slice j s.ms.length g,.slice l s.waits.length h,.slice i s.ends.length f,.slice c s.opens.length b,.slice k s.noes.length sN],.int .i64 t] w λe w'=>e=.returned (.bool (Gu s t))/\Bel w w':=by
 obtain⟨d,n⟩:=Zx ((w.alloc (.cells #[.int .i64 s.broker,.int .i64 s.nextId,.int .i64 s.nextSeq,.int .i64 s.tx,.slice j s.ms.length g,.slice l s.waits.length h,.slice i s.ends.length f,.slice c s.opens.length b,.slice k s.noes.length sN] 43)).alloc (.cells #[.int .i64 t] 2));have m:=n▸((Bel.refl w).alloc _).alloc _;have I:d.heap[w.heap.size]?=some (.cells #[.int .i64 s.broker,.int .i64 s.nextId,.int .i64 s.nextSeq,.int .i64 s.tx,.slice j s.ms.length g,.slice l s.waits.length h,.slice i s.ends.length f,.slice c s.opens.length b,.slice k s.noes.length sN] 43 (0,0)):=by rw[n];exact Ke _ _ _
 have p:d.heap[w.heap.size+1]?=some (.cells #[.int .i64 t] 2 (0,0)):=by rw[n];exact Jc _ _ _
 have N:=Qb p;have r:=Qkk (λx=>x.tid==t) 140 #[.pointer (some ⟨w.heap.size+1,0,none⟩)] Qvw A d c b s.opens (o.opens.bel m) (by
  intros;exact Qs2 _ _ _ t _ _ ((‹Bel d _›).cell (cell_of_block p 0 _ rfl)))
 have K:(s.opens.any λx=>x.tid==t)=Qt (λx:Qv=>x.tid) t s.opens:=rfl;rw[K]at r;obtain⟨M,L⟩:=Zh2 (λW (a:Bel d W)=>Qb3 s j g l h i f c b k sN t A W (o.bel (m.trans a))) (λW (a:Bel d W)=>Qan s j g l h i f c b k sN t A W (o.bel (m.trans a)));unfold Gu;generalize Qt (λx:Qv=>x.tid) t s.opens=q1 at *;generalize Qt (λx:Branch=>x.tid) t s.waits=q2 at *;generalize Qt (λx:Fin=>x.tid) t s.ends=q3 at *;obtain⟨J,v,q,z,y⟩:=Zh5 r n m I p;clear n m p o r;go_enter func60,ntmps60;go_wp2_with fail;refine(v.o▸J.o).zR λm a=>?_
 rw[<-v.o]at a;have m:=Zh a;obtain⟨o,p,r,B,C,D,E,F,G⟩:=sAt (a.heap z.o);have H:=cell_of_block (a.heap y) 0 _ rfl;clear a I;rcases q1 with _|_
 ·go_wp2_with fail
  refine(M _ m).zR λa a=>?_
  have n:=Zh (m.trans a);clear o p r B C D E F G H;obtain⟨o,p,r,B,C,D,E,F,G⟩:=sAt ((m.trans a).heap z.o);have H:=cell_of_block ((m.trans a).heap y) 0 _ rfl;clear a;rcases q2 with _|_
  ·go_wp2_with fail
   refine(L _ n).zR λa a=>?_
   have I:=Zh (n.trans a);clear a;go_wp2;go_ret;exact⟨by simp,q.trans I.o⟩
  ·go_wp2
   go_ret;exact⟨by simp,q.trans n.o⟩
 ·go_wp2
  go_ret;exact⟨by simp,q.trans m.o⟩
end Go.Proofs.YtkdpmdfcdgphlaaGreat
namespace Go.Po
open Go.Mem
def Zq(A O:Nat->Prop)(w w':World)(P:(Nat->Prop)->(Nat->Prop)->World->Prop):Prop:=∃O',P (λk=>A k\/O' k) O' w'/\Kept O w w'/\∀k,O' k->O k\/w.heap.size<=k
theorem Zq.imp{A O:Nat->Prop}{w w':World}{P Q:(Nat->Prop)->(Nat->Prop)->World->Prop}(h:Zq A O w w' P)(d:∀A O w,P A O w->Q A O w):Zq A O w w' Q:=by
 obtain⟨a,b,c⟩:=h;exact⟨a,d _ _ _ b,c⟩
theorem Zq.from{A O:Nat->Prop}{w b w':World}{P:(Nat->Prop)->(Nat->Prop)->World->Prop}(a:Bel w b)(h:Zq A O b w' P):Zq A O w w' P:=by
 obtain⟨c,d,e,f⟩:=h;exact⟨c,d,(a.kept O).trans e,λk h=>(f k h).imp id λh=>Nat.le_trans a.size h⟩
def nG(t:Int)(G:List (Int×Goes)):Int:=((Qn t G).map λx=>x.n).getD 0
def Qcs(t:Int)(G:List (Int×Goes)):List Put:=((Qn t G).map λx=>x.puts).getD []
def Qu9(t:Int)(p:Put)(G:List (Int×Goes)):List (Int×Goes):=Qo t ⟨nG t G+1,Qcs t G++[p],0⟩ G
def Qi4(t:Int)(G:List (Int×Goes)):List (Int×Goes):=Qo t ⟨nG t G+1,Qcs t G,0⟩ G
def Ni(G:List (Int×Goes)):List Put:=G.flatMap λp=>p.2.puts
theorem Ul(t:Int)(L:List (Int×Gq)):nOf t L=nG t (Zv L):=by rw[nOf,nG,Qkx];cases Qn t L<;>rfl
theorem Pk(t:Int)(L:List (Int×Gq)):Jd t L=Qcs t (Zv L):=by rw[Jd,Qcs,Qkx];cases Qn t L<;>rfl
end Go.Po
namespace Go.Proofs.YtkdpmdfcdgphlaaGreat
open Tryz
open Go.RowKit Go.Mem Go.Po
theorem Qln(L:List (Int×Gq)):K7 L=Ni (Zv L):=by rw[K7,Ni,Zv,List.flatMap_map]
structure Pd(n:Nat)(A Ok:Nat->Prop)(w:World)(pb kb db lb lm tb tm:Nat)(L:List (Int×Gq))(l:List St)(s:St):Prop where
 k:Kq n A Ok w kb db l s
 lk:Qy w lb lm tb tm L
 blk:∃T,w.heap[pb]?=some (.cells #[.pointer (some ⟨kb,0,none⟩),.pointer (some ⟨lb,0,none⟩)] T (0,0))
 ap:∀j,lkO lb lm tb tm L j->¬Ok j/\A j/\j≠pb
 np:¬Ok pb/\A pb
 few:L.length<=n
 ok:∀p∈L,p.2.g.puts.all Jg=true
def pdO(Ok:Nat->Prop)(pb lb lm tb tm:Nat)(L:List (Int×Gq))(j:Nat):Prop:=j=pb\/Ok j\/lkO lb lm tb tm L j
section
variable {n n' : Nat} {A B Ok Ok' O S : Nat → Prop} {w w' : World} {pb kb db lb lm tb tm : Nat} {L L' : List (Int × Gq)} {l l' : List St} {s s' : St} {G : List (Int × Goes)}
theorem Pd.lt(h:Pd n A Ok w pb kb db lb lm tb tm L l s):∀j,pdO Ok pb lb lm tb tm L j->j<w.heap.size:=λj a=>by
 obtain⟨T,b⟩:=h.blk;rcases a with rfl|a|a
 ·exact Qb b
 ·exact h.k.lt j a
 ·exact h.lk.lt a
theorem Pd.oa(h:Pd n A Ok w pb kb db lb lm tb tm L l s):∀j,pdO Ok pb lb lm tb tm L j->A j:=λj a=>by
 rcases a with rfl|a|a
 ·exact h.np.2
 ·exact h.k.oa j a
 ·exact(h.ap j a).2.1
theorem Pd.keep(h:Pd n A Ok w pb kb db lb lm tb tm L l s)(d:Kept S w w')(c:∀j,pdO Ok pb lb lm tb tm L j->¬S j)(g:∀j,S j->A j)(e:∀j,j<w.heap.size->B j->A j)(b:∀j,pdO Ok pb lb lm tb tm L j->B j):Pd n B Ok w' pb kb db lb lm tb tm L l s:=by
 obtain⟨T,f⟩:=h.blk;exact⟨h.k.keep d (λj a=>c j (.inr (.inl a))) g e λj a=>b j (.inr (.inl a)),h.lk.keep d λj a=>c j (.inr (.inr a)),⟨T,d.heap (c pb (.inl rfl)) f⟩,λj a=>⟨(h.ap j a).1,b j (.inr (.inr a)),(h.ap j a).2.2⟩,⟨h.np.1,b pb (.inl rfl)⟩,h.few,h.ok⟩
theorem Pd.bel(h:Pd n A Ok w pb kb db lb lm tb tm L l s)(a:Bel w w'):Pd n A Ok w' pb kb db lb lm tb tm L l s:=
 h.keep (a.kept λ_=>False) (λ_ _ h=>h) (λ_ h=>h.elim) (λ_ _ h=>h) h.oa
theorem Pd.more(h:Pd n A Ok w pb kb db lb lm tb tm L l s)(a:n<=n'):Pd n' A Ok w pb kb db lb lm tb tm L l s:=⟨h.k.more a,h.lk,h.blk,h.ap,h.np,Nat.le_trans h.few a,h.ok⟩
theorem Pd.c0(h:Pd n A Ok w pb kb db lb lm tb tm L l s):w.cell? ⟨pb,0,none⟩=some (.pointer (some ⟨kb,0,none⟩)):=by obtain⟨T,a⟩:=h.blk;exact cell_of_block a 0 _ rfl
theorem Pd.c1(h:Pd n A Ok w pb kb db lb lm tb tm L l s):w.cell? ⟨pb,1,none⟩=some (.pointer (some ⟨lb,0,none⟩)):=by obtain⟨T,a⟩:=h.blk;exact cell_of_block a 1 _ rfl
theorem Pd.write(h:Pd n A Ok w pb kb db lb lm tb tm L l s)(f:Kq n' (λk=>A k\/Ok' k) Ok' w' kb db l' s')(b:Kept Ok w w')(d:∀k,Ok' k->Ok k\/w.heap.size<=k)(g:n<=n'):
 Zq A (pdO Ok pb lb lm tb tm L) w w' λA O w=>O=pdO Ok' pb lb lm tb tm L/\Pd n' A Ok' w pb kb db lb lm tb tm L l' s':=by
 obtain⟨T,c⟩:=h.blk;have i:=Qb c;have no:∀j,j<w.heap.size->¬Ok j->¬Ok' j:=λj a a e=>(d j e).elim a λh=>by omega
 refine⟨pdO Ok' pb lb lm tb tm L,⟨rfl,f.mono (λj _ a=>?_) (λj a=>.inr (.inr (.inl a))),h.lk.keep b λj a=>(h.ap j a).1,⟨T,b.heap h.np.1 c⟩,λj a=>⟨no j (h.lk.lt a) (h.ap j a).1,.inl (h.ap j a).2.1,(h.ap j a).2.2⟩,⟨no pb i h.np.1,.inl h.np.2⟩,Nat.le_trans h.few g,h.ok⟩,b.mono λj _ a=>.inr (.inl a),λj a=>?_⟩
 ·rcases a with a|a|a|a
  ·exact .inl a
  ·exact .inl (a▸h.np.2)
  ·exact .inr a
  ·exact .inl (h.ap j a).2.1
 ·rcases a with a|a|a
  ·exact .inl (.inl a)
  ·exact(d j a).imp (λh=>.inr (.inl h)) id
  ·exact .inl (.inr (.inr a))
theorem Pd.lock(h:Pd n A Ok w pb kb db lb lm tb tm L l s)(k:Qy w' lb lm tb tm L')(f:Kept (lkO lb lm tb tm L) w w')(d:∀j,lkO lb lm tb tm L' j->lkO lb lm tb tm L j\/w.heap.size<=j)(m:n<=n')(i:L'.length<=n')(ok:∀p∈L',p.2.g.puts.all Jg=true):
 Zq A (pdO Ok pb lb lm tb tm L) w w' λA O w=>O=pdO Ok pb lb lm tb tm L'/\Pd n' A Ok w pb kb db lb lm tb tm L' l s:=by
 obtain⟨T,g⟩:=h.blk;have q:=Qb g;refine⟨pdO Ok pb lb lm tb tm L',⟨rfl,(h.k.more m).keep f (λj b c=>(h.ap j c).1 b) (λj a=>(h.ap j a).2.1) (λj o a=>?_) (λj a=>.inr (.inr (.inl a))),k,⟨T,f.heap (λa=>(h.ap pb a).2.2 rfl) g⟩,λj a=>?_,⟨h.np.1,.inl h.np.2⟩,i,ok⟩,f.mono λj _ a=>.inr (.inr a),λj a=>?_⟩
 ·rcases a with a|a|a|a
  ·exact a
  ·exact a▸h.np.2
  ·exact h.k.oa j a
  ·rcases d j a with b|b
   ·exact(h.ap j b).2.1
   ·omega
 ·refine⟨λb=>?_,.inr (.inr (.inr a)),λe=>?_⟩
  ·rcases d j a with c|c
   ·exact(h.ap j c).1 b
   ·have:=h.k.lt j b;omega
  ·rcases d j a with c|c
   ·exact(h.ap j c).2.2 e
   ·omega
 ·rcases a with a|a|a
  ·exact .inl (.inl a)
  ·exact .inl (.inr (.inl a))
  ·exact(d j a).imp (λh=>.inr (.inr h)) id
def Pq(n:Nat)(A O:Nat->Prop)(w:World)(pb kb db:Nat)(l:List St)(s:St)(G:List (Int×Goes)):Prop:=
 ∃(Ok:Nat->Prop) (lb lm tb tm:Nat) (L:List (Int×Gq)),O=pdO Ok pb lb lm tb tm L/\Pd n A Ok w pb kb db lb lm tb tm L l s/\Zv L=G
theorem Pq.lt(h:Pq n A O w pb kb db l s G):∀j,O j->j<w.heap.size:=by obtain⟨Ok,lb,lm,tb,tm,L,rfl,a,_⟩:=h;exact a.lt
theorem Pq.oa(h:Pq n A O w pb kb db l s G):∀j,O j->A j:=by obtain⟨Ok,lb,lm,tb,tm,L,rfl,a,_⟩:=h;exact a.oa
theorem Pq.keep(h:Pq n A O w pb kb db l s G)(f:Kept S w w')(e:∀j,O j->¬S j)(g:∀j,S j->A j)(c:∀j,j<w.heap.size->B j->A j)(d:∀j,O j->B j):Pq n B O w' pb kb db l s G:=by
 obtain⟨Ok,lb,lm,tb,tm,L,rfl,a,b⟩:=h;exact⟨Ok,lb,lm,tb,tm,L,rfl,a.keep f e g c d,b⟩
theorem Pq.bel(h:Pq n A O w pb kb db l s G)(a:Bel w w'):Pq n A O w' pb kb db l s G:=h.keep (a.kept λ_=>False) (λ_ _ h=>h) (λ_ h=>h.elim) (λ_ _ h=>h) h.oa
theorem Pq.mono(h:Pq n A O w pb kb db l s G)(a:∀j,j<w.heap.size->B j->A j)(b:∀j,O j->B j):Pq n B O w pb kb db l s G:=h.keep (Kept.refl (λ_=>False) w) (λ_ _ h=>h) (λ_ h=>h.elim) a b
theorem Pq.more(h:Pq n A O w pb kb db l s G)(c:n<=n'):Pq n' A O w pb kb db l s G:=by obtain⟨Ok,lb,lm,tb,tm,L,rfl,a,b⟩:=h;exact⟨Ok,lb,lm,tb,tm,L,rfl,a.more c,b⟩
theorem Pq.self(h:Pq n A O w pb kb db l s G)(b:Bel w w'):Zq A O w w' λA O w=>Pq n A O w pb kb db l s G:=
 ⟨O,(h.bel b).mono (λj _ a=>a.elim id (h.oa j)) λj a=>.inr a,b.kept _,λj a=>.inl a⟩
theorem Pq.good(h:Pq n A O w pb kb db l s G):Go.Po.Good s:=by obtain⟨Ok,lb,lm,tb,tm,L,rfl,a,_⟩:=h;exact a.k.good
theorem Qnh(h:Kq n A Ok w kb db l s):
 Calls prog 37 #[.pointer (some ⟨kb,0,none⟩)] w λe w'=>∃pb,e=.returned (.pointer (some ⟨pb,0,none⟩))/\w.heap.size<=pb/\Zq A Ok w w' λA O w=>Pq n A O w pb kb db l s []:=by
 have H:=Zh h;clear h;go_enter func37,ntmps37;go_wp2_with fail;refine(Qc8 w).mono ?_;rintro e b ⟨lb,lm,tb,tm,rfl,f,a,i⟩;obtain⟨g,c,d⟩:=Zh3 f a i;clear f a i;go_wp2;go_ret;have b2:Bel b (b.alloc (.cells #[.pointer (some ⟨kb,0,none⟩),.pointer (some ⟨lb,0,none⟩)] 117)):=(Bel.refl _).alloc _;have k:=c.size;refine⟨b.heap.size,rfl,k,pdO Ok b.heap.size lb lm tb tm [],⟨Ok,lb,lm,tb,tm,[],rfl,⟨(H.mono (λj a h=>?_) λj a=>.inr (.inr (.inl a))).bel (c.trans b2),g.bel b2,⟨_,heap_alloc_new _ _⟩,λj a=>⟨λf=>?_,.inr (.inr (.inr a)),λe=>?_⟩,⟨λf=>?_,.inr (.inl rfl)⟩,Nat.zero_le _,λp i=>by simp at i⟩,rfl⟩,(c.trans b2).kept _,λj a=>?_⟩
 ·rcases h with h|h|h|h
  ·exact h
  ·omega
  ·exact H.oa j h
  ·have:=d.o j h;omega
 ·have:=H.lt j f;have:=d.o j a;omega
 ·have:=g.lt a;omega
 ·have:=H.lt _ f;omega
 ·rcases a with a|a|a
  ·exact .inr (by omega)
  ·exact .inl a
  ·exact .inr (d j a)
theorem Ur(h:Pd n A Ok w pb kb db lb lm tb tm L l s):
 Calls prog 27 #[.pointer (some ⟨pb,0,none⟩)] w λe w'=>e=.returned (.pointer (some ⟨lb,0,none⟩))/\w=w':=by
 have c1:=h.c1;clear h;go_enter func27,ntmps27;go_wp2;go_ret;exact⟨rfl,rfl⟩
theorem Qlo:∀l:List Branch,(∀b∈l,b.puts.length<=10)->(l.flatMap (·.puts)).length<=10*l.length
 | [],_=>by simp
 | x::l,h=>by
  have c:=Qlo l λb a=>h b (by simp[a])
  have a:=h x (by simp);rw[List.flatMap_cons,List.length_append,List.length_cons];omega
def Qft(s:St)(q:ByteArray)(G:List (Int×Goes)):Bool:=Qcr s q (Ni G)&&decide (((Ni G).length:Int)+1+Xz s<=4294967296-s.nextId)&&decide (((Ni G).length:Int)+1+Xz s<=72-s.ms.length)
theorem Qlp(h:Pd n A Ok w pb kb db lb lm tb tm L l s)(G:Option Addr)(D:Nat)(r:Option Addr)(o:Nat)(F:Option Addr)(C:Nat)(I:Option Addr)(E:Nat)(H:Option Addr)(sN:Nat)(B:StR (λ_=>False) w s G D r o F C I E H sN)(ay:n<=1000)(q:ByteArray):
 Calls prog 61 #[.pointer (some ⟨pb,0,none⟩),.agg #[.int .i64 s.broker,.int .i64 s.nextId,.int .i64 s.nextSeq,.int .i64 s.tx,.slice G s.ms.length D,.slice r s.waits.length o,.slice F s.ends.length C,.slice I s.opens.length E,.slice H s.noes.length sN],.string q] w λe w'=>e=.returned (.bool (Qft s q (Zv L)))/\Bel w w':=by
 have N:=Zh B;obtain⟨ap,c⟩:=Zx (w.alloc (.cells #[.int .i64 s.broker,.int .i64 s.nextId,.int .i64 s.nextSeq,.int .i64 s.tx,.slice G s.ms.length D,.slice r s.waits.length o,.slice F s.ends.length C,.slice I s.opens.length E,.slice H s.noes.length sN] 43));have g:=Zb c;have J:=Zn c;obtain⟨am,ai,aa⟩:=Zh3 c g J;have ok:=h.k.good.may;have aA:=Qk ok.tw;have av:=ok.few;have aw:=ok.nextId;have c1:=h.c1;have a8:=Zd c1;have ar:(Ni (Zv L)).length<=10000:=by
  rw[<-Qln];have:=Qdb (L:=L) λp d=>by have:=(h.lk.ent p d).n;omega
  have:=h.few;omega
 obtain⟨m,f⟩:=Zx ((Ni (Zv L)).length);obtain⟨d,z⟩:=Zx s.waits.length;obtain⟨M,y,O,Z⟩:=Zh4 f z (show ∀b∈s.waits,b.puts.length<=10 fromλb v=>Hz (ok.ws b v)) (Qdc (λ_=>False) ap lb lm tb tm L (h.lk.bel g));rw[Qln,<-f]at Z;rw[<-f]at ar;obtain⟨R,j⟩:=Zx (Qft s q (Zv L));rw[<-j];have ak:=Zh j;clear h B c g J ok f j;go_enter func61,ntmps61;go_wp2_with fail;rw[<-am.o];refine Z.mono ?_;rintro e ah ⟨ao,cap,rfl,c,b2⟩;obtain⟨an,aj,Y⟩:=Zh3 (c.rd0) b2 (ai.trans b2);have f:ah.cell? ⟨w.heap.size,5,none⟩=some (.slice r d o):=by rw[z];exact cell_of_block (b2.heap aa.o) 5 _ rfl
 have g:IntKind.i64.wrap ((m:Int)+1)=(m:Int)+1:=by rw[IntKind.wrap_i64];omega
 have az:d<=2000:=by omega
 clear c b2 c1 z;go_wp2_with fail;clear f g;go_loopw[8,10,22] (λa _ i wr=>∃(k:Nat) (t:Int),k<=d/\i=.int .i64 k/\a=.int .i64 t/\Hid (t=((s.waits.take k).map λb=>(b.puts.length:Int)).sum+(m+1))/\Hid (Bel ah wr)) (λ_ _ i _=>d-(intOf i).toNat)
 case atStart=>exact⟨0,m+1,Nat.zero_le _,rfl,rfl,Zh (by simp),Zh (Bel.refl _)⟩
 case round=>
  obtain⟨k,t,ax,rfl,rfl,W,h⟩:=hrel;have a9:0<=t/\t<=200000:=by
   have z:=Qn1 (s.waits.take k) (λb v=>O b (List.mem_of_mem_take v));have g:(s.waits.take k).length<=2000:=by rw[List.length_take];omega
   have:=W.o;omega
  by_cases au:k<d
  ·have v:k<s.waits.length:=by have:=y.o;omega
   obtain⟨x,j⟩:∃x,s.waits[k]?=some x:=⟨s.waits[k],by simp[v]⟩;have V:=O x (List.mem_of_getElem? j);obtain⟨Q,off,J,K,P,S,c0,c1,-⟩:=Kl (N.waits.bel (Y.trans h.o)) j;have B:=Zh (Qat s.waits k x j);have T:IntKind.i64.wrap ((k:Int)+1)=((k+1:Nat):Int):=by rw[IntKind.wrap_i64];omega
   have U:IntKind.i64.wrap (t+(x.puts.length:Int))=t+(x.puts.length:Int):=by rw[IntKind.wrap_i64];omega
   have c:=Zh (h.alloc (.cells #[.int .i64 x.tid,.slice J x.puts.length K] 58));subst P;clear j v;go_wp2;go_roundw
   case rel=>exact⟨k+1,t+x.puts.length,by omega,by go_num,rfl,Zh (by rw[B.o,W.o];omega),c⟩
   case measure=>simp[intOf];omega
  ·obtain rfl:k=d:=by omega
   have af:(m:Int)+1+Xz s=t:=by rw[W.o,List.take_of_length_le (by have:=y.o;omega),Xz];omega
   have aB:IntKind.i64.wrap (4294967296-s.nextId)=4294967296-s.nextId:=by rw[IntKind.wrap_i64];omega
   obtain⟨B,j⟩:=Zx s.ms.length;rw[<-j]at av;have aC:IntKind.i64.wrap (72-(B:Int))=72-(B:Int):=by rw[IntKind.wrap_i64];omega
   have K:=Zh (Y.trans h);have ae:(Ni (Zv L)++s.waits.flatMap (·.puts)).length<=50000:=by
    rw[List.length_append];have v:=Qlo s.waits O;have:=M.o;omega
   have X:=Qlz s G D r o F C I E H sN q (Ni (Zv L)) ao cap (λ_=>False) wr (N.ms.bel K.o) (N.waits.bel K.o) (an.bel h.o) ⟨by omega,by omega,ae⟩;rw[<-M.o,<-y.o,<-j]at X;have al:=Zh X;have J:=(aj.trans h).heap aa;rw[<-y.o,<-j]at J;obtain⟨P,ab,Q,S,ac,f,T,U,V⟩:=sAt J;have aq:=Zh J;have ad:R=(Qcr s q (Ni (Zv L))&&decide (t<=4294967296-s.nextId)&&decide (t<=72-(B:Int))):=by rw[ak.o,Qft,<-M.o,af,<-j]
   generalize Qcr s q (Ni (Zv L))=rb at *;have v:=Zh ad;clear af au X J j ae ad;go_wp2_with fail;refine al.zR λj j=>?_
   have c:=Zh (K.trans j);clear P ab Q S ac f T U V;obtain⟨P,ab,Q,S,ac,f,T,U,V⟩:=sAt (j.heap aq.o);clear j P Q S f T U V;rcases rb with _|_
   ·go_wp2
    go_ret;exact⟨by rw[v.o];rfl,c.o⟩
   ·by_cases z:t<=4294967296-s.nextId
    ·by_cases g:t<=72-(B:Int)
     ·have f:=Zh (show R=true by rw[v.o,decide_eq_true z,decide_eq_true g];rfl)
      go_wp2;go_ret;exact⟨by rw[f.o];rfl,c.o⟩
     ·have f:=Zh (show R=false by rw[v.o,decide_eq_true z,decide_eq_false g];rfl)
      have j:=eq_false g;clear g;go_wp2;go_ret;exact⟨by rw[f.o];rfl,c.o⟩
    ·have f:=Zh (show R=false by rw[v.o,decide_eq_false z];simp)
     go_wp2;go_ret;exact⟨by rw[f.o];rfl,c.o⟩
end
end Go.Proofs.YtkdpmdfcdgphlaaGreat
namespace Go.Po
open Go.Mem Go.Proofs.YtkdpmdfcdgphlaaGreat
def Ga(s:St)(G:List (Int×Goes))(t:Int)(p:Put):Int:=if (!Zw t||!Jg p)=true then 1 else if Gu s t=true then 9 else if (decide (nG t G>=10)||!Qft s p.q G)=true then 5 else 0
def Pm(s:St)(t:Int):Int:=if Zw t=false then 1 else if Gu s t=true then 9 else 0
def Co(l:List St)(s:St)(G:List (Int×Goes))(t:Int):List St×St×List (Int×Goes):=if Pm s t=0 then ([Qr s t false []],Qr s t false [],Xn t G) else (l,s,G)
theorem Qon{s:St}{t:Int}(h:Zw t=true)(a:Gu s t=false):Lo s t:=by
 simp only[Gu,Bool.or_eq_false_iff]at a;exact⟨h,a.1.2,a.1.1,a.2⟩
theorem Qsg{α:Type}{k:Int}{l:List (Int×α)}(h:Qn k l=none):Xn k l=l:=by
 rw[Xn,List.filter_eq_self];intro p b;have:k ∉ l.map (·.1):=λa=>by
  have:=Qao.2 a;rw[h]at this;cases this
 simp only[decide_eq_true_eq];exactλe=>this (e▸List.mem_map.2 ⟨p,b,rfl⟩)
end Go.Po
namespace Go.Proofs.YtkdpmdfcdgphlaaGreat
open Tryz
open Go.RowKit Go.Mem Go.Po
section
variable {n : Nat} {A O Ok : Nat → Prop} {w w' : World} {pb kb db lb lm tb tm : Nat} {L : List (Int × Gq)} {l : List St} {s : St} {G : List (Int × Goes)}
theorem Qaf(h:∀p∈L,p.2.g.puts.all Jg=true)(t:Int):(Jd t L).all Jg=true:=by
 rw[Jd];rcases a:Qn t L with _|x
 ·rfl
 ·exact h _ (Xh a)
theorem Pd.put1(h:Pd n A Ok w pb kb db lb lm tb tm L l s){t:Int}{x:Gq}(f:x.g.puts.all Jg=true)(d:Qy w' lb lm tb tm (Qo t x L))(g:Kept (lkO lb lm tb tm L) w w')(e:∀j,x.has j->lkO lb lm tb tm L j\/w.heap.size<=j):
 Zq A (pdO Ok pb lb lm tb tm L) w w' λA O w=>Pq (n+1) A O w pb kb db l s (Qo t x.g (Zv L)):=
 (h.lock d g (F4 e) (Nat.le_succ n) (Nat.le_trans (putI_len t x L) (Nat.succ_le_succ h.few)) λp a=>by
   rcases Zt.1 a with rfl|a
   ·exact f
   ·exact h.ok p a.1).imp λ_ _ _ ⟨b,c⟩=>⟨_,_,_,_,_,_,b,c,Qkw t x L⟩
theorem Qni(h:Pq n A O w pb kb db l s G)(aA:n<200)(t:Int)(F:i64 t)(p:Put)(ar:p.q.size<=maxLen):
 Calls prog 19 #[.pointer (some ⟨pb,0,none⟩),.int .i64 t,.agg #[.string p.q,.string p.b]] w λe w'=>e=.returned (.int .i64 (Ga s G t p))/\Zq A O w w' λA O w=>Pq (n+1) A O w pb kb db l s (if Ga s G t p=0 then Qu9 t p G else G):=by
 have i:=Zh (h.more (Nat.le_succ n));obtain⟨Ok,lb,lm,tb,tm,L,rfl,k,rfl⟩:=h;have a:=Zh k;obtain⟨a8,f⟩:=Zx (w.alloc (.cells #[.string p.q,.string p.b] 33));have y:=Zb f;have z:=Zn f;obtain⟨ah,V,ao⟩:=Zh3 f y z;have c0:=k.c0;have aC:=Zd c0;obtain⟨au,o⟩:=Zx (Zw t);obtain⟨av,q⟩:=Zx (Jg p);obtain⟨aw,r⟩:=Zx (Gu s t);obtain⟨H,m⟩:=Zx (nG t (Zv L));obtain⟨ax,v⟩:=Zx (Qft s p.q (Zv L));obtain⟨R,c⟩:=Zx (Ga s (Zv L) t p);rw[<-c];rw[Ga,<-o,<-q,<-r,<-m,<-v]at c;obtain⟨G',j⟩:=Zx (if R=0 then Qu9 t p (Zv L) else Zv L);rw[<-j];obtain⟨g,b,aj,aa,ak,Z,al⟩:=Zh7 j c o q r m v;clear k f y z o q r m v c j;go_enter func19,ntmps19;go_wp2_with fail;rw[<-ah.o];refine(Ve (a.k.bel V)).mono ?_;rintro e ay ⟨Q,J,U,N,P,I,T,M,S,K,rfl,j,b2⟩;obtain⟨a9,f⟩:=Zx (ay.alloc (.cells #[.int .i64 s.broker,.int .i64 s.nextId,.int .i64 s.nextSeq,.int .i64 s.tx,.slice Q s.ms.length J,.slice U s.waits.length N,.slice P s.ends.length I,.slice T s.opens.length M,.slice S s.noes.length K] 43));have c:=Zb f;have k:=Zn f;obtain⟨ai,am,W,D,ae⟩:=Zh5 f ((j.bel c).mono (B:=λ_=>False) λ_ _ h=>h.elim) ((V.trans b2).trans c) (c.heap (b2.heap ao.o)) k;clear j b2 c k f c0;go_wp2_with fail;rw[<-ai.o];refine(Wq t F _).mono ?_;rw[<-aj.o];rintro e az ⟨rfl,rfl⟩;have E:=cell_of_block D 0 _ rfl;have f:=cell_of_block D 1 _ rfl;obtain⟨e0,j,k,m,o,q,r,v,y⟩:=sAt ae.o;rcases au with _|_
 ·go_wp2
  go_ret;exact⟨by rw[b.o];rfl,by rw[g.o,b.o];exact i.self W.o⟩
 go_wp2_with fail;refine(Qgr p ar _).mono ?_;rw[<-aa.o];rintro e az ⟨rfl,c⟩;obtain⟨X,ap,af,ab⟩:=Zh4 (W.trans c) (c.heap D.o) (c.heap ae.o) (am.bel c);clear c E f e0 j k m o q r v y;obtain⟨e0,j,k,m,o,q,r,v,y⟩:=sAt af.o;rcases av with _|_
 ·go_wp2
  go_ret;exact⟨by rw[b.o];rfl,by rw[g.o,b.o];exact i.self X.o⟩
 go_wp2_with fail;refine(Qej s Q J U N P I T M S K t _ _ ab).mono ?_;rw[<-ak.o];rintro e aD ⟨rfl,c⟩;obtain⟨f,ac,aq,an⟩:=Zh4 (X.trans c) (c.heap ap.o) (c.heap af.o) (ab.bel c);clear c e0 j k m o q r v y;rcases aw with _|_
 case true=>
  go_wp2;go_ret;exact⟨by rw[b.o];rfl,by rw[g.o,b.o];exact i.self f.o⟩
 have c1:=(a.bel f).c1;obtain⟨e0,j,k,m,o,q,r,v,y⟩:=sAt aq.o;have E:=cell_of_block ac 0 _ rfl;go_wp2_with fail;refine(Ko t F _ lb lm tb tm L (a.bel f).lk).mono ?_;rw[Ul,<-Z.o];rintro e aE ⟨rfl,rfl⟩;by_cases z:H>=10
 ·have c:=Zh (show R=5 by rw[b.o,decide_eq_true z];rfl)
  go_wp2;go_ret;exact⟨by rw[c.o];rfl,by rw[g.o,c.o];exact i.self f.o⟩
 have C:=Zh z;have aB:=eq_false z;clear z;go_wp2_with fail;refine(Qlp (a.bel f.o) Q J U N P I T M S K an.o (by omega) p.q).mono ?_;rw[<-al.o];rintro e aF ⟨rfl,z⟩;obtain⟨Y,ad⟩:=Zh2 (f.trans z) (z.heap ac.o);clear z c1 E e0 j k m o q r v y;rcases ax with _|_
 ·have c:=Zh (show R=5 by rw[b.o,decide_eq_false (show ¬H>=10 by have:=C.o;omega)];rfl)
  go_wp2;go_ret;exact⟨by rw[c.o];rfl,by rw[g.o,c.o];exact i.self Y.o⟩
 have c:=Zh (show R=0 by rw[b.o,decide_eq_false (show ¬H>=10 by have:=C.o;omega)];rfl);go_upto_region 10 with (fail);refine Zp [6] 7 (by kernel_rfl) rfl (by kernel_rfl) (λ_ d _ _ _ h=>by cases d<;>exact h) ?_;intro E k m;have j:=Zh (Y.trans k);have o:=Up.cell (a.bel j).c1;have q:=Up.cell (cell_of_block (k.heap ad) 0 _ rfl);have r:=Up.cell (cell_of_block (k.heap ad) 1 _ rfl);clear k m;refine Xt 1 [0,1,2,3,4,5] (by kernel_rfl) rfl ?_;simp only[Za,List.getElem?_cons_zero,List.getElem?_cons_succ];repeat(go_big_quiet_step(fail))
 refine wpQuiet_nil ?_;clear o q r;refine Qq 0 6 (by kernel_rfl) rfl ?_;go_wp2_with fail;refine(Qc9 t F p E lb lm tb tm L (a.bel j.o).lk (by rw[Ul,<-Z.o];have:=C.o;omega) (by have:=a.few;omega)).mono ?_;rintro e w8 ⟨rfl,x,m,q,o,r⟩;obtain⟨k,y,v,z⟩:=Zh4 m q o r;clear m q o r;go_wp2_with fail;refine Z6 ?_;refine X0 (by kernel_rfl) ?_;go_wp2;go_ret;refine⟨by rw[c.o];rfl,?_⟩;rw[g.o,c.o,if_pos rfl];have:=(a.bel j.o).put1 (t:=t) (by rw[k.o];show(Jd t L++[p]).all Jg=true;rw[List.all_append,Qaf a.ok t];simpa using aa.symm) y.o v.o z.o;rw[k.o,Ul,Pk]at this;exact Zq.from j this
theorem Wy{k:Int}(b:i64 k)(h:Qy w lb lm tb tm L):
 Calls prog 64 #[.pointer (some ⟨lb,0,none⟩),.int .i64 k] w λe w'=>e=.returned (.bool (Qn k L).isSome)/\Qy w' lb lm tb tm (Xn k L)/\Kept (lkO lb lm tb tm L) w w':=by
 rcases a:Qn k L with _|x
 ·refine(Qnc k b w lb lm tb tm L h a).zS ?_
  exact⟨rfl,by rw[Qsg a];exact h,Kept.refl _ _⟩
 ·refine(Qk1 k b w lb lm tb tm L h x a).mono ?_
  rintro e w' ⟨rfl,c,d⟩;exact⟨rfl,c,d⟩
theorem Pd.drop1(h:Pd n A Ok w pb kb db lb lm tb tm L l s){t:Int}(c:Qy w' lb lm tb tm (Xn t L))(d:Kept (lkO lb lm tb tm L) w w'):
 Zq A (pdO Ok pb lb lm tb tm L) w w' λA O w=>Pq n A O w pb kb db l s (Xn t (Zv L)):=
 (h.lock c d (λj a=>.inl (Qx2 j a)) (Nat.le_refl n) (Nat.le_trans (List.length_filter_le _ _) h.few) λp a=>h.ok p (Jo.1 a).1).imp λ_ _ _ ⟨a,b⟩=>⟨_,_,_,_,_,_,a,b,Qu0 t L⟩
theorem Zq.then{d e:World}{P:(Nat->Prop)->(Nat->Prop)->World->Prop}{a:Nat->Prop}(b:Kept O w d)(c:∀k,a k->O k\/w.heap.size<=k)(i:∀{A B O:Nat->Prop} {w:World},P A O w->(∀k,k<w.heap.size->B k->A k)->(∀k,O k->B k)->P B O w)(g:Zq (λk=>A k\/a k) a d e P):Zq A O w e P:=by
 obtain⟨f,l,m,n⟩:=g;exact⟨f,i l (λk _ h=>h.elim (λh=>.inl (.inl h)) .inr) (λk h=>.inr h),b.trans' m c,λk j=>(n k j).elim (c k) λh=>.inr (Nat.le_trans b.size h)⟩
theorem Nj(h:Pq n A O w pb kb db l s G)(r:∀k,A k->k<w.heap.size)(K:n<199)(t:Int)(m:i64 t):
 Calls prog 20 #[.pointer (some ⟨pb,0,none⟩),.int .i64 t] w λe w'=>e=.returned (.int .i64 (Pm s t))/\Zq A O w w' λA O w=>Pq (n+1) A O w pb kb db (Co l s G t).1 (Co l s G t).2.1 (Co l s G t).2.2:=by
 have o:=Zh (h.more (Nat.le_succ n));obtain⟨Ok,lb,lm,tb,tm,L,rfl,g,rfl⟩:=h;obtain⟨c,D⟩:=Zh2 g r;have c0:=g.c0;have ad:=Zd c0;obtain⟨M,i⟩:=Zx (Zw t);obtain⟨N,j⟩:=Zx (Gu s t);obtain⟨R,a⟩:=Zx (Pm s t);obtain⟨ac,b⟩:=Zx (Co l s (Zv L) t);rw[<-b,<-a];rw[Co,<-a]at b;rw[Pm,<-i,<-j]at a;obtain⟨f,d,p,q⟩:=Zh4 b a i j;clear g i j a b r;go_enter func20,ntmps20;go_wp2_with fail;refine(Wq t m _).mono ?_;rw[<-p.o];rintro e af ⟨rfl,rfl⟩;rcases M with _|_
 ·have a:=Zh (show R=1 by rw[d.o];rfl)
  go_wp2;go_ret;exact⟨by rw[a.o];rfl,by rw[f.o,a.o];exact o.self (Bel.refl _)⟩
 go_wp2_with fail;refine(Ve c.k).mono ?_;rintro e ae ⟨W,Q,Z,U,V,P,Y,T,X,S,rfl,b,b2⟩;obtain⟨J,C⟩:=Zh2 (b.mono (B:=λ_=>False) λ_ _ h=>h.elim) b2;clear b b2 c0;go_wp2_with fail;refine(Qej s W Q Z U V P Y T X S t _ _ J).mono ?_;rw[<-q.o];rintro e ah ⟨rfl,g⟩;have b:=Zh (C.trans g);clear g;rcases N with _|_
 case true=>
  have a:=Zh (show R=9 by rw[d.o];rfl);go_wp2;go_ret;exact⟨by rw[a.o];rfl,by rw[f.o,a.o];exact o.self b.o⟩
 have a:=Zh (show R=0 by rw[d.o];rfl);have c0:=(c.bel b).c0;have g:=Qon p.symm q.symm;have H:=Zh g;clear g;go_wp2_with fail;refine(Uj (c.bel b.o).k (λk h=>Nat.lt_of_lt_of_le (D.o k h) b.size) K (J8 t) none 0 none 0 m (show i64 0 by simp[i64]) (Rd.nil _ _ _ none 0 (Nat.zero_le _)) (Rd.nil _ _ _ none 0 (Nat.zero_le _)) true H.can).mono ?_;rintro e ai ⟨rfl,aa,r,v,y⟩;obtain⟨ab,⟨j,g⟩,x,z⟩:=(c.bel b.o).write r v y (Nat.le_succ n);obtain⟨i,F,I⟩:=Zh3 g x z;have c1:=g.c1;have E:=Zh j;clear r v y g x z c0 j;go_wp2_with fail;refine(Wy m i.lk).mono ?_;rintro e w8 ⟨rfl,j,g⟩;obtain⟨v,r⟩:=Zh2 j g;clear j g c1;go_wp2;go_ret;refine⟨by rw[a.o];rfl,?_⟩;rw[f.o,a.o,if_pos rfl];refine Zq.from b (Zq.then F I (λh=>h.mono) ?_)
 have:=i.drop1 (t:=t) v.o r.o;rw[<-E.o]at this;exact this
end
end Go.Proofs.YtkdpmdfcdgphlaaGreat
namespace Go.Po
open Go.Mem Go.Proofs.YtkdpmdfcdgphlaaGreat
def Qvu:Msg:=⟨0,⟨#[]⟩,⟨#[]⟩,0,0,0⟩
def takeC(s:St)(G:List (Int×Goes))(t:Int)(q:ByteArray):Int:=if (!Zw t||!Jl q)=true then 1 else if Gu s t=true then 9 else if nG t G>=10 then 5 else if (Fe s q).isSome=true then 0 else 6
def Gs(s:St)(G:List (Int×Goes))(t:Int)(q:ByteArray):Msg:=if takeC s G t q=0 then (Fe s q).getD Qvu else Qvu
def Gt(l:List St)(s:St)(G:List (Int×Goes))(t:Int)(q:ByteArray):List St×St×List (Int×Goes):=if takeC s G t q=0 then ([Du s (Gs s G t q).id t],Du s (Gs s G t q).id t,Qi4 t G) else (l,s,G)
theorem Qmd{s:St}{q:ByteArray}{m:Msg}(h:Fe s q=some m):m∈s.ms/\m.q=q/\m.who=0/\m.cnt<3:=by
 rw[Fe,List.head?_eq_some_iff]at h;obtain⟨r,b⟩:=h;have a:m∈Ty s q:=by rw[b];simp
 rw[Ty,List.mem_filter]at a;simp[Fb,Fa]at a;exact⟨a.1,a.2.1,a.2.2.1,a.2.2.2⟩
theorem Qh5{α d:Type}{f:α->d}:∀{l:List α},(l.map f).Nodup->∀{x y:α},x∈l->y∈l->f x=f y->x=y
 | [],_,_,_,h,_,_=>by simp at h
 | a::l,hn,x,y,c,b,he=>by
  rw[List.map_cons,List.nodup_cons]at hn;rcases List.mem_cons.1 c with c|c
  ·rcases List.mem_cons.1 b with b|b
   ·rw[c,b]
   ·exact absurd (List.mem_map.2 ⟨y,b,by rw[<-he,c]⟩) hn.1
  ·rcases List.mem_cons.1 b with b|b
   ·exact absurd (List.mem_map.2 ⟨x,c,by rw[he,b]⟩) hn.1
   ·exact Qh5 hn.2 c b he
theorem Qvv{s:St}(b:May s){t:Int}(v:Lo s t){q:ByteArray}{m:Msg}(h:Fe s q=some m):Zf s ⟨2,t,m.id,false,[],[]⟩=0:=by
 obtain⟨g,j,k,l⟩:=v;obtain⟨a,B,x,C⟩:=Qmd h;have A:=Yb.1 (b.ms m a);have z:=Js b.broker;have n:Zw m.id=true:=by simp only[Zw,decide_eq_true_eq];omega
 have p:Qp ⟨2,t,m.id,false,[],[]⟩=true:=by
  rw[Dn];refine⟨by simp,g,by simp[Mr,n],rfl,rfl,?_,rfl⟩;show(0:Int)<=Jw 2;decide
 have c:Sc s m.id=true:=by rw[Sc,List.any_eq_true];exact⟨m,a,by simp⟩
 have r:Sd s m.id=0:=by
  obtain⟨i,w,y,d,e,f⟩:=Qdy c;have:w=m:=by
   have o:=List.mem_of_getElem? d;exact Qh5 b.ids o a e
  rw[f,this,x]
 unfold Zf;rw[if_neg (by simp[p]),if_neg (by simp[l])];have f:J3 s ⟨2,t,m.id,false,[],[]⟩=false:=by simp[J3,c]
 have o:Zy s ⟨2,t,m.id,false,[],[]⟩=false:=by simp[Zy]
 have d:Kc s ⟨2,t,m.id,false,[],[]⟩=false:=by simp[Kc,r,j,k]
 have e:Jf s ⟨2,t,m.id,false,[],[]⟩=false:=by simp[Jf]
 rw[f,o,d,e];rfl
end Go.Po
namespace Go.Proofs.YtkdpmdfcdgphlaaGreat
open Tryz
open Go.RowKit Go.Mem Go.Po
theorem rAt{w:World}{g:Nat}{a0 a1 a2 a3 a4 a5:Value}{T:TypeId}{a:Nat×Nat}(h:w.heap[g]?=some (.cells #[a0,a1,a2,a3,a4,a5] T a)):w.cell? ⟨g,0,none⟩=some a0/\w.cell? ⟨g,1,none⟩=some a1/\w.cell? ⟨g,2,none⟩=some a2/\w.cell? ⟨g,3,none⟩=some a3/\w.cell? ⟨g,4,none⟩=some a4/\w.cell? ⟨g,5,none⟩=some a5:=
 ⟨cell_of_block h 0 _ rfl,cell_of_block h 1 _ rfl,cell_of_block h 2 _ rfl,cell_of_block h 3 _ rfl,cell_of_block h 4 _ rfl,cell_of_block h 5 _ rfl⟩
theorem Li{w:World}{g:Nat}{a0 a1 a2 a3 a4 a5:Value}{T:TypeId}(h:w.heap[g]?=some (.cells #[a0,a1,a2,a3,a4,a5] T (0,0))):(w.cell? ⟨g,0,none⟩=some a0/\w.frozen? ⟨g,0,none⟩=false)/\(w.cell? ⟨g,1,none⟩=some a1/\w.frozen? ⟨g,1,none⟩=false)/\(w.cell? ⟨g,2,none⟩=some a2/\w.frozen? ⟨g,2,none⟩=false)/\(w.cell? ⟨g,3,none⟩=some a3/\w.frozen? ⟨g,3,none⟩=false)/\(w.cell? ⟨g,4,none⟩=some a4/\w.frozen? ⟨g,4,none⟩=false)/\(w.cell? ⟨g,5,none⟩=some a5/\w.frozen? ⟨g,5,none⟩=false):=
 ⟨⟨cell_of_block h 0 _ rfl,Qa h 0⟩,⟨cell_of_block h 1 _ rfl,Qa h 1⟩,⟨cell_of_block h 2 _ rfl,Qa h 2⟩,⟨cell_of_block h 3 _ rfl,Qa h 3⟩,⟨cell_of_block h 4 _ rfl,Qa h 4⟩,⟨cell_of_block h 5 _ rfl,Qa h 5⟩⟩
theorem Cw{a w:World}{g:Nat}(i:Bel a w)(j:a.heap.size<=g)(b c d e f h:Value):Bel a ((((((w.setCell ⟨g,0,none⟩ b).setCell ⟨g,1,none⟩ c).setCell ⟨g,2,none⟩ d).setCell ⟨g,3,none⟩ e).setCell ⟨g,4,none⟩ f).setCell ⟨g,5,none⟩ h):=
 i.of_kept (Kept.set6 w g b c d e f h) λk l=>by omega
section
variable {n n' : Nat} {A O Ok : Nat → Prop} {w w' : World} {pb kb db lb lm tb tm : Nat} {L : List (Int × Gq)} {l : List St} {s : St} {G : List (Int × Goes)}
theorem Pd.took1(h:Pd n A Ok w pb kb db lb lm tb tm L l s){t:Int}{x:Gq}(b:x.g=Ro t L)(g:Qy w' lb lm tb tm (Qo t x L))(k:Kept (lkO lb lm tb tm L) w w')(i:∀j,x.has j->lkO lb lm tb tm L j\/w.heap.size<=j)(e:n<=n')(f:L.length+1<=n'):
 Zq A (pdO Ok pb lb lm tb tm L) w w' λA O w=>Pq n' A O w pb kb db l s (Qi4 t (Zv L)):=by
 have:=(h.lock g k (F4 i) e (Nat.le_trans (putI_len t x L) f) λp a=>by
  rcases Zt.1 a with rfl|a
  ·rw[b];exact Qaf h.ok t
  ·exact h.ok p a.1)
 refine this.imp λ_ _ _ ⟨c,d⟩=>⟨_,_,_,_,_,_,c,d,?_⟩
 rw[Qkw,b,Ro,Qi4,Ul,Pk]
theorem Qme(h:Pq n A O w pb kb db l s G)(U:∀k,A k->k<w.heap.size)(bz:n<199)(t:Int)(al:i64 t)(q:ByteArray)(b0:q.size<=maxLen):
 Calls prog 25 #[.pointer (some ⟨pb,0,none⟩),.int .i64 t,.string q] w λe w'=>e=.returned (.tuple #[.agg (F6 (Gs s G t q)),.int .i64 (takeC s G t q)])/\Zq A O w w' λA O w=>Pq (n+1) A O w pb kb db (Gt l s G t q).1 (Gt l s G t q).2.1 (Gt l s G t q).2.2:=by
 have Q:=Zh (h.more (Nat.le_succ n));obtain⟨Ok,lb,lm,tb,tm,L,rfl,b,rfl⟩:=h;obtain⟨z,p⟩:=Zx w.heap.size;obtain⟨aq,V⟩:=Zx (λk=>A k\/k=z);have P:=Zh (show ∀k,aq k↔A k\/k=z fromλk=>by rw[V]);have b:=b.keep (Kept.refl (λ_=>False) w) (λ_ _ h=>h) (λ_ h=>h.elim) (λk a h=>((P.o k).1 h).elim id λh=>by omega) λk a=>(P.o k).2 (.inl (b.oa k a))
 have E:=Zh b;obtain⟨ax,c⟩:=Zx ((w.alloc (.cells #[.int .i64 0,.string ⟨#[]⟩,.string ⟨#[]⟩,.int .i64 0,.int .i64 0,.int .i64 0] 47)).alloc (.cells #[.int .i64 0,.string ⟨#[]⟩,.string ⟨#[]⟩,.int .i64 0,.int .i64 0,.int .i64 0] 47));have r:=c▸((Bel.refl w).alloc _).alloc _;have T:ax.heap[z]?=some (.cells #[.int .i64 0,.string ⟨#[]⟩,.string ⟨#[]⟩,.int .i64 0,.int .i64 0,.int .i64 0] 47 (0,0)):=by rw[c,p];exact Ke _ _ _
 have W:ax.heap[z+1]?=some (.cells #[.int .i64 0,.string ⟨#[]⟩,.string ⟨#[]⟩,.int .i64 0,.int .i64 0,.int .i64 0] 47 (0,0)):=by rw[c,p];exact Jc _ _ _
 obtain⟨bd,bg,H,D,f,N⟩:=Zh6 (show ∀k,aq k->k<ax.heap.size fromλk h=>((P.o k).1 h).elim (λh=>Nat.lt_of_lt_of_le (U k h) r.size) λh=>h▸Qb T) c p r T W;have c0:=b.c0;have b9:=Zd c0;obtain⟨ay,F⟩:=Zx (Zw t);obtain⟨az,I⟩:=Zx (Jl q);obtain⟨ap,S⟩:=Zx (Gu s t);obtain⟨aZ,C⟩:=Zx (nG t (Zv L));obtain⟨ao,o⟩:=Zx (Fe s q);obtain⟨R,a⟩:=Zx (takeC s (Zv L) t q);obtain⟨m,g⟩:=Zx (Gs s (Zv L) t q);obtain⟨b6,i⟩:=Zx (Gt l s (Zv L) t q);rw[<-i,<-g,<-a];rw[Gt,<-g,<-a]at i;rw[Gs,<-a,<-o]at g;rw[takeC,<-F,<-I,<-S,<-C,<-o]at a;obtain⟨M,J,K,aN,br,aO,aM,aw⟩:=Zh8 i g a F I S C o;clear b U V p c r T W F I S C o a g i;go_enter func25,ntmps25;go_wp2_with fail;rw[<-H.o,<-bg.o];refine(Ve (E.k.bel D)).mono ?_;rintro e b1 ⟨aE,a9,aH,aC,aD,a8,aG,aB,aF,aA,rfl,c,b2⟩;obtain⟨bt,a⟩:=Zx (b1.alloc (.cells #[.int .i64 s.broker,.int .i64 s.nextId,.int .i64 s.nextSeq,.int .i64 s.tx,.slice aE s.ms.length a9,.slice aH s.waits.length aC,.slice aD s.ends.length a8,.slice aG s.opens.length aB,.slice aF s.noes.length aA] 43));have b:=Zb a;have g:=Zn a;obtain⟨bh,aP,aI,aR,af⟩:=Zh5 a ((c.bel b).mono (B:=λ_=>False) λ_ _ h=>h.elim) (b2.trans b) g E.k.good.may;clear c b2 b g a c0;obtain⟨e0,ah,ai,aj,ak,an,ar,au,av⟩:=sAt aR.o;go_wp2_with fail;rw[<-bh.o];have i:=Qlc s aE a9 aH aC aD a8 aG aB aF aA q (λ_=>False) bt aP.ms af.seqs (by have:=af.few;omega);rw[<-aw.o]at i;obtain⟨a,am,p,o⟩:∃a am,Qwd ao=.tuple #[.agg (F6 a),.bool am]/\am=ao.isSome/\∀y,ao=some y->a=y:=by
  rcases ao with _|y
  ·exact⟨Qvu,false,rfl,rfl,λ_ h=>by cases h⟩
  ·exact⟨y,true,rfl,rfl,λ_ h=>by cases h;rfl⟩
 rw[p]at i;have aK:=Zh o;refine i.zR λC b=>?_
 obtain⟨b5,g⟩:=Zx (C.alloc (.cells #[.int .i64 a.id,.string a.q,.string a.b,.int .i64 a.seq,.int .i64 a.cnt,.int .i64 a.who] 47));have c:=Zb g;have r:=Zn g;obtain⟨bi,bl,bj,F,bu,bs⟩:=Zh6 g r (show z<=C.heap.size by have:=Qb N.o;have:=aI.size;have:=b.size;omega) (aI.trans (b.trans c)) ((b.trans c).heap aR.o) (aP.bel (b.trans c));unfold F6;clear b c r g i p o e0 ah ai aj ak an ar au av;go_wp2_with fail;rw[<-bi.o];refine(Wq t al _).mono ?_;rw[<-aN.o];rintro e ba ⟨rfl,rfl⟩;rcases ay with _|_
 ·have b:=Zh (show R=1 by rw[K.o];rfl)
  obtain⟨S,T,U,V,W,X⟩:=rAt (F.heap N.o);obtain⟨⟨g,Y⟩,⟨i,Z⟩,⟨o,aa⟩,⟨p,ab⟩,⟨r,ac⟩,⟨C,ad⟩⟩:=Li (F.heap f.o);have ae:=Qb (F.heap f);go_wp2_with fail;refine bodyPost_ret (v:=.tuple #[.agg #[.int .i64 0,.string ⟨#[]⟩,.string ⟨#[]⟩,.int .i64 0,.int .i64 0,.int .i64 0],.int .i64 1]) (by simp[results,results25,go_sem,g,i,o,p,r,C]) rfl ?_;refine⟨by rw[J.o,b.o];rfl,?_⟩;rw[M.o,b.o];exact Q.self (Cw (D.trans F.o) (by have:=H.o;omega) _ _ _ _ _ _)
 go_wp2_with fail;refine(Dh q b0 _).mono ?_;rw[<-br.o];rintro e ba ⟨rfl,rfl⟩;rcases az with _|_
 ·have b:=Zh (show R=1 by rw[K.o];rfl)
  obtain⟨S,T,U,V,W,X⟩:=rAt (F.heap N.o);obtain⟨⟨g,Y⟩,⟨i,Z⟩,⟨o,aa⟩,⟨p,ab⟩,⟨r,ac⟩,⟨C,ad⟩⟩:=Li (F.heap f.o);have ae:=Qb (F.heap f);go_wp2_with fail;refine bodyPost_ret (v:=.tuple #[.agg #[.int .i64 0,.string ⟨#[]⟩,.string ⟨#[]⟩,.int .i64 0,.int .i64 0,.int .i64 0],.int .i64 1]) (by simp[results,results25,go_sem,g,i,o,p,r,C]) rfl ?_;refine⟨by rw[J.o,b.o];rfl,?_⟩;rw[M.o,b.o];exact Q.self (Cw (D.trans F.o) (by have:=H.o;omega) _ _ _ _ _ _)
 obtain⟨e0,ah,ai,aj,ak,an,ar,au,av⟩:=sAt bu.o;go_wp2_with fail;refine(Qej s aE a9 aH aC aD a8 aG aB aF aA t _ _ bs).mono ?_;rw[<-aO.o];rintro e ba ⟨rfl,I⟩;obtain⟨c,bm⟩:=Zh2 (F.trans I) (I.heap bl.o);clear I e0 ah ai aj ak an ar au av;rcases ap with _|_
 case true=>
  have b:=Zh (show R=9 by rw[K.o];rfl);obtain⟨S,T,U,V,W,X⟩:=rAt (c.heap N.o);obtain⟨⟨g,Y⟩,⟨i,Z⟩,⟨o,aa⟩,⟨p,ab⟩,⟨r,ac⟩,⟨C,ad⟩⟩:=Li (c.heap f.o);have ae:=Qb (c.heap f);go_wp2_with fail;refine bodyPost_ret (v:=.tuple #[.agg #[.int .i64 0,.string ⟨#[]⟩,.string ⟨#[]⟩,.int .i64 0,.int .i64 0,.int .i64 0],.int .i64 9]) (by simp[results,results25,go_sem,g,i,o,p,r,C]) rfl ?_;refine⟨by rw[J.o,b.o];rfl,?_⟩;rw[M.o,b.o];exact Q.self (Cw (D.trans c.o) (by have:=H.o;omega) _ _ _ _ _ _)
 have c1:=(E.bel (D.trans c)).c1;go_wp2_with fail;refine(Ko t al _ lb lm tb tm L (E.bel (D.trans c)).lk).mono ?_;rw[Ul,<-aM.o];rintro e bA ⟨rfl,rfl⟩;by_cases I:aZ>=10
 ·have b:=Zh (show R=5 by rw[K.o,if_pos I];rfl)
  obtain⟨S,T,U,V,W,X⟩:=rAt (c.heap N.o);obtain⟨⟨g,Y⟩,⟨i,Z⟩,⟨o,aa⟩,⟨p,ab⟩,⟨r,ac⟩,⟨C,ad⟩⟩:=Li (c.heap f.o);have ae:=Qb (c.heap f);go_wp2_with fail;refine bodyPost_ret (v:=.tuple #[.agg #[.int .i64 0,.string ⟨#[]⟩,.string ⟨#[]⟩,.int .i64 0,.int .i64 0,.int .i64 0],.int .i64 5]) (by simp[results,results25,go_sem,g,i,o,p,r,C]) rfl ?_;refine⟨by rw[J.o,b.o];rfl,?_⟩;rw[M.o,b.o];exact Q.self (Cw (D.trans c.o) (by have:=H.o;omega) _ _ _ _ _ _)
 have au:=Zh (show ¬aZ>=10 from I);have b8:=eq_false I;clear I;have aJ:=Zh aK.1;rcases am with _|_
 ·have b:=Zh (show R=6 by rw[K.o,if_neg au.o,<-aJ.o];rfl)
  obtain⟨S,T,U,V,W,X⟩:=rAt (c.heap N.o);obtain⟨⟨g,Y⟩,⟨i,Z⟩,⟨o,aa⟩,⟨p,ab⟩,⟨r,ac⟩,⟨C,ad⟩⟩:=Li (c.heap f.o);have ae:=Qb (c.heap f);go_wp2_with fail;refine bodyPost_ret (v:=.tuple #[.agg #[.int .i64 0,.string ⟨#[]⟩,.string ⟨#[]⟩,.int .i64 0,.int .i64 0,.int .i64 0],.int .i64 6]) (by simp[results,results25,go_sem,g,i,o,p,r,C]) rfl ?_;refine⟨by rw[J.o,b.o];rfl,?_⟩;rw[M.o,b.o];exact Q.self (Cw (D.trans c.o) (by have:=H.o;omega) _ _ _ _ _ _)
 obtain⟨y,I⟩:=Option.isSome_iff_exists.1 aJ.symm;have bw:=aK.2 y I;subst bw;have b:=Zh (show R=0 by rw[K.o,if_neg au.o,I];rfl);have aL:=Zh (show m=a by rw[J.o,b.o,I];rfl);have ah:=Qon aN.symm aO.symm;have bv:=Zh (Qvv af ah (aw.symm.trans I));have bx:=Zh (show i64 a.id from by
  have aj:=(Yb.1 (af.ms a (Qmd (aw.symm.trans I)).1)).2.2.1;have ai:=Js af.broker;exact Qgt (by simp only[Zw,decide_eq_true_eq];omega))
 clear I ah;go_upto_region 14 with (fail);refine Zp [8,9] 10 (by kernel_rfl) rfl (by kernel_rfl) (λ_ d _ _ _ h=>by cases d<;>exact h) ?_;intro bc ah ai;obtain⟨I,av⟩:=Zh2 (c.trans ah) (ah.heap bm.o);have aj:=Up.cell (E.bel (D.trans I)).c0;have ak:=Up.cell (cell_of_block av 0 _ rfl);clear ah ai c1;refine Xt 2 [0,1,2,3,4,5,6,7] (by kernel_rfl) rfl ?_;simp only[Za,List.getElem?_cons_zero,List.getElem?_cons_succ];repeat(go_big_quiet_step(fail))
 refine wpQuiet_nil ?_;clear aj ak;refine Qq 1 8 (by kernel_rfl) rfl ?_;have ai:=D.trans I;have ah:=Zh ai;clear ai;go_wp2_with fail;refine(Uj (E.bel ah).k (λk h=>Nat.lt_of_lt_of_le (bd k h) I.size) bz ⟨2,t,a.id,false,[],[]⟩ none 0 none 0 al bx (Rd.nil _ _ _ none 0 (Nat.zero_le _)) (Rd.nil _ _ _ none 0 (Nat.zero_le _)) true bv).mono ?_;rintro e w8 ⟨rfl,b3,aV,aW,aX⟩;have ak:∀j,z<=j->¬pdO Ok pb lb lm tb tm L j:=λj ai aj=>by have:=E.lt j aj;have:=H.o;omega
 obtain⟨b4,⟨aT,aQ⟩,an,aY⟩:=(E.bel ah.o).write aV aW aX (Nat.le_succ n);obtain⟨ar,bk,bq,be⟩:=Zh4 aQ an aY aT;have aU:=bj.o;obtain⟨bn,aS⟩:=Zh2 (an.heap (ak _ aU) av.o) (an.heap (ak _ (Nat.le_refl _)) (I.heap f.o));clear aV aW aX aQ an aY aT;go_wp2_with fail;refine Z6 ?_;refine Qq 0 9 (by kernel_rfl) rfl ?_;go_wp2_with fail;refine Z6 ?_;refine X0 (by kernel_rfl) ?_;have c1:=ar.c1;go_wp2_with fail;refine(Qbs t al w8 lb lm tb tm L ar.lk (by rw[Ul,<-aM.o];have:=au.o;omega) (by have:=E.few;omega)).mono ?_;rintro e bb ⟨rfl,x,aW,aX,an,aY⟩;have b7:=Qb aS;have aV:∀j,z<=j->j<bc.heap.size->¬lkO lb lm tb tm L j:=λj ai aj aQ=>ak j ai (.inr (.inr aQ))
 obtain⟨bo,aT⟩:=Zh2 (an.heap (aV _ aU (Qb av.o)) bn.o) (an.heap (aV _ (Nat.le_refl _) (Qb (I.heap f.o))) aS.o);have aQ:=ar.took1 aW aX an aY (Nat.le_refl _) (Nat.succ_le_succ E.few);have bf:=Zh aQ;clear aW aX an aY aQ c1;obtain⟨S,T,U,V,W,X⟩:=rAt bo.o;obtain⟨⟨g,Y⟩,⟨i,Z⟩,⟨o,aa⟩,⟨p,ab⟩,⟨r,ac⟩,⟨C,ad⟩⟩:=Li aT.o;have ae:=Qb aT;go_wp2_with fail;refine bodyPost_ret (v:=.tuple #[.agg #[.int .i64 a.id,.string a.q,.string a.b,.int .i64 a.seq,.int .i64 a.cnt,.int .i64 a.who],.int .i64 0]) (by simp[results,results25,go_sem,g,i,o,p,r,C]) rfl ?_;refine⟨by rw[aL.o,b.o];rfl,?_⟩;rw[M.o,b.o,if_pos rfl,aL.o];have aW:Zq aq (pdO Ok pb lb lm tb tm L) bc bb λA O w=>Pq (n+1) A O w pb kb db [Du s a.id t] (Du s a.id t) (Qi4 t (Zv L)):=by
  refine Zq.then bk bq (λh=>h.mono) ?_
  have:=bf.o;rw[<-be.o]at this;exact this
 obtain⟨an,ay,az,ap⟩:=aW;have aQ:=Kept.set6 bb z (.int .i64 a.id) (.string a.q) (.string a.b) (.int .i64 a.seq) (.int .i64 a.cnt) (.int .i64 a.who);have aX:¬an z:=λh=>(ap z h).elim (ak z (Nat.le_refl _)) λh=>by have:=Qb (I.heap f.o);omega
 exact⟨an,ay.keep aQ (λk ai aj=>aX (aj▸ai)) (λk h=>.inl ((P.o k).2 (.inr h))) (λk _ h=>h.imp (λh=>(P.o k).2 (.inl h)) id) (λk h=>.inr h),((ah.kept _).trans az).trans' aQ λk h=>.inr (by have:=H.o;omega),λk h=>(ap k h).imp id λh=>Nat.le_trans ah.size h⟩
end
end Go.Proofs.YtkdpmdfcdgphlaaGreat
namespace Go.Po
open Go.Mem Go.Proofs.YtkdpmdfcdgphlaaGreat
theorem Qdh{k:ByteArray}:∀(n:Nat) (v:Vw),(∀j,j<n->k≠Qe j)->Qg k (Wt n v)=Qg k v
 | 0,_,_=>rfl
 | n+1,v,h=>by rw[Wt,Wo (h n (by omega)),Qdh n v λj a=>h j (by omega)]
theorem Qhx{v:Vw}(h:(v.map λx=>x.1).Nodup):∀n,((Wt n v).map λx=>x.1).Nodup
 | 0=>h
 | n+1=>Qke (Qhx h n)
theorem Qdi(v:Vw):∀n,used (Wt n v)<=used v
 | 0=>Nat.le_refl _
 | n+1=>Nat.le_trans (Qaa _ _) (Qdi v n)
theorem Qfs(v:Vw):∀n,(Wt n v).length<=v.length
 | 0=>Nat.le_refl _
 | n+1=>Nat.le_trans (Bb _ _).length_le (Qfs v n)
def Y0(v:Vw)(last:Nat)(s:St):Vw:=Zg Zr (Xi Zr (laidB s (last+1)) (Zg (Qe last) v))
theorem Qll(v:Vw)(last:Nat)(s:St):Gm v last s 5=Wt (last+1) (moved Zr Xd ⟨laidB s (last+1),(laidB s (last+1)).length,true⟩ (Y0 v last s)):=rfl
theorem Qdj{v:Vw}{last:Nat}{s:St}{k:ByteArray}(a:k≠Zr)(b:k≠Qe last):Qg k (Y0 v last s)=Qg k v:=by
 rw[Y0,Zg,X3 a,Y9 a,Zg,X3 b]
theorem Qlm{v:Vw}{last:Nat}{s:St}(h:(v.map λx=>x.1).Nodup):((Y0 v last s).map λx=>x.1).Nodup:=Qcn (Qrt (Qcn h))
theorem Qae:Zr≠Xd:=λh=>absurd (congrArg ByteArray.size h) (by show ¬(4=5);omega)
theorem Nh{v:Vw}{last:Nat}{s:St}{k:ByteArray}(h:∀j,j<last+1->k≠Qe j):Qg k (Gm v last s 5)=if k=Xd then some ⟨laidB s (last+1),(laidB s (last+1)).length,true⟩ else if k=Zr then none else Qg k (Y0 v last s):=by
 rw[Qll,Qdh _ _ h,Qe2 _ Qae]
theorem Qsf{v:Vw}{b:Int}{s0:St}{frm last n:Nat}{old:List (List (List UInt8))}{f:List (List UInt8)}(h:Be v b s0 frm last old f n)(k:last+1<=999)(s:St)(g:s.broker=b):Be (Gm v last s 5) b s (last+1) (last+1) [] [] 0:=by
 have m:Qg Xd (Gm v last s 5)=some ⟨laidB s (last+1),(laidB s (last+1)).length,true⟩:=by rw[Nh λj _=>Db j,if_pos rfl]
 have d:∀j,last<j->j<=999->Qg (Qe j) (Gm v last s 5)=none:=λj c a=>by
  rw[Nh λi o e=>by have:=Y6 a (by omega) e;omega,if_neg λe=>Db j e.symm,if_neg λe=>Bd j e.symm,Qdj (λe=>Bd j e.symm) (λe=>by have:=Y6 a (by omega) e;omega)];exact h.hi j c a
 refine⟨?_,rfl,.inr ⟨_,m,rfl,rfl,rfl,g⟩,?_,?_,λj c a=>d j (by omega) a,λi l h=>by simp at h,.inl ⟨d _ (by omega) k,rfl⟩,Nat.le_refl _,λl h=>by simp at h,λl h=>by simp at h⟩
 ·rw[Qll];exact Qhx (Qke (Qe3 (Qlm h.nm))) _
 ·rw[Nh λj _=>Uw j,if_neg λe=>Qhm e.symm,if_neg λe=>Qd8 e.symm,Qdj (λe=>Qd8 e.symm) (Uw _)]
  exact h.n1
 ·rw[Nh λj _=>Bd j,if_neg Qae,if_pos rfl]
theorem Qu8{v:Vw}{last:Nat}{s:St}(c:(v.map λx=>x.1).Nodup)(h:Qg Zr v=none):used (Gm v last s 5)<=used v+(laidB s (last+1)).length/\(Gm v last s 5).length<=v.length+1:=by
 obtain⟨f,b,i⟩:∃f,Qg Zr (Y0 v last s)=some f/\f.b=laidB s (last+1):=by
  rw[Y0,Zg,Nb,Qd9,Zg,X3 (Bd last),h];exact⟨_,rfl,rfl⟩
 have a:=Qlm (last:=last) (s:=s) c;have e:=Qkg a b;have l1:=(G7 a b).length_eq;have o:used (Y0 v last s)<=used v+(laidB s (last+1)).length:=by
  rw[Y0,Bn];have:=Qec (s:=Zr) (bs:=laidB s (last+1)) (Qcn (k:=Qe last) c);rwa [Bn]at this
 have r:(Y0 v last s).length<=v.length+1:=by
  rw[Y0,Dm];have:=Qgu Zr (laidB s (last+1)) (Zg (Qe last) v);rwa [Dm]at this
 have d:=Sw (k:=Zr) (m:=Xd) (v:=(⟨laidB s (last+1),(laidB s (last+1)).length,true⟩:File)) (l:=Y0 v last s) Qae;have p:=Ub d;have j:=d.length_eq;have q:=Qaa Xd (Qx Zr (Y0 v last s));have t:=(Bb Xd (Qx Zr (Y0 v last s))).length_le;have g:=Qdi (moved Zr Xd ⟨laidB s (last+1),(laidB s (last+1)).length,true⟩ (Y0 v last s)) (last+1);have n:=Qfs (moved Zr Xd ⟨laidB s (last+1),(laidB s (last+1)).length,true⟩ (Y0 v last s)) (last+1);rw[<-Qll]at g n;rw[i]at e;simp only[used,List.map_cons,List.sum_cons,List.length_cons]at e o p q g l1 j ⊢;omega
end Go.Po
namespace Go.Proofs.YtkdpmdfcdgphlaaGreat
open Tryz
open Go.RowKit Go.Mem Go.Po
def Laid(w:World)(O:Nat->Prop)(db:Nat)(s:St):Prop:=∃(A Od:Nat->Prop) (v:Vw) (frm:Nat),Dk A Od w db 1048576 v/\(∀k,Od k->O k)/\frm<=999/\(v.map λx=>x.1).Nodup/\Qg Zr v=none/\Qg Xd v=some ⟨laidB s frm,(laidB s frm).length,true⟩
theorem Laid.bel{w w':World}{O:Nat->Prop}{a:Nat}{s:St}(h:Laid w O a s)(e:Bel w w'):Laid w' O a s:=by
 obtain⟨A,b,v,frm,c,d⟩:=h;exact⟨A,b,v,frm,c.bel e,d⟩
theorem Qx4{n m:Nat}{A O:Nat->Prop}{w:World}{g d:Nat}{l:List St}{s:St}(h:Kq n A O w g d l s)(q:∀k,A k->k<w.heap.size)(G:n+1<=m)(H:m<199)(E:10+(encS s).length<=1006*(m-n)):
 Calls prog 214 #[.pointer (some ⟨g,0,none⟩)] w λe w'=>e=.returned (.int .i64 0)/\∃a,Kq m (λk=>A k\/a k) a w' g d [s] s/\Laid w' a d s/\Kept O w w'/\∀k,a k->O k\/w.heap.size<=k:=by
 obtain⟨v,last,all,o,b,p⟩:=h.ex;obtain⟨s0,frm,old,C,ac,S,J,c,ae,t3,af,ah,ai,aj,ak⟩:=p;have y:=b.last;have b2:=b.few;have z:=b.used;have B:=b.all;have F:=Qhs h.good.may (last+1);have f:=Qsf c (by omega) s rfl;obtain⟨K,L⟩:=Qu8 (last:=last) (s:=s) c.nm c.n2;have D:1006*(m-n)+1006*n=1006*m:=by rw[<-Nat.mul_add];congr 1;omega
 refine(Qlk o q (by omega) h.good.may (by omega) (by omega) c.n2).mono ?_;rintro e w' ⟨rfl,a,k1,k2,k3⟩;refine⟨rfl,a,⟨⟨_,_,_,k1,⟨by omega,by omega,by omega,by omega⟩,⟨s,last+1,[],[],0,[],n,f,h.good,h.fit,by simp;omega,rfl,trivial,rfl,λj i i=>by simp[Ji]⟩⟩,h.good,h.fit.mono (by omega)⟩,?_,k2,k3⟩;obtain⟨⟨I,i,x,T,Z,V,ad,X,Y,U,ab,W,aa,sN,M,r,N,P,Q,t⟩,R⟩:=k1;exact⟨_,i,_,last+1,r.d,λk h=>(t k).2 (.inr (.inl h)),by omega,f.nm,f.n2,by rw[Nh λj _=>Db j,if_pos rfl]⟩
end Go.Proofs.YtkdpmdfcdgphlaaGreat

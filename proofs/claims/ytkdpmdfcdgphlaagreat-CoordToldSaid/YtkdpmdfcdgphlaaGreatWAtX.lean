/- Part of this claim's proof. Conditions: as its theorems say. -/
import Derived.Test.YtkdpmdfcdgphlaaGreatM34
set_option linter.all false
namespace Go.Proofs.YtkdpmdfcdgphlaaGreat
open Go.RowKit Go.Mem Go.Po
section
variable {n n' : Nat} {X O : Nat → Prop} {w0 w w' : World} {cb pb kb db : Nat} {b b' : Br}
def AtX(X O:Nat->Prop)(b:Br)(n:Nat)(w0 w:World)(cb pb kb db:Nat):Prop:=b.of n (λk=>X k\/O k) O w cb pb kb db/\(∀k,O k->w0.heap.size<=k/\¬X k)/\Bel w0 w/\∀k,X k->k<w.heap.size/\w0.heap.size<=k
theorem AtX.new(h:At O b n w0 w cb pb kb db)(o:Obj):AtX (λk=>k=w.heap.size) O b n w0 (w.alloc o) cb pb kb db:=by
 have c:=(Bel.refl w).alloc o;refine⟨Br.bel (Br.mono h.1 (λj a a=>a.elim (λh=>by omega) id) λj h=>.inr h) c,λk a=>⟨h.2.1 k a,λe=>?_⟩,h.2.2.trans c,λk a=>?_⟩
 ·have:=Br.lt h.1 k a;omega
 ·have:=h.2.2.size;rw[a];exact⟨by simp,this⟩
theorem AtX.more(h:AtX X O b n w0 w cb pb kb db)(o:Obj):AtX (λk=>X k\/k=w.heap.size) O b n w0 (w.alloc o) cb pb kb db:=by
 have c:=(Bel.refl w).alloc o;refine⟨Br.bel (Br.mono h.1 (λj a a=>a.elim (λh=>h.elim .inl λh=>by omega) .inr) λj h=>.inr h) c,λk a=>⟨(h.2.1 k a).1,λe=>e.elim (h.2.1 k a).2 λe=>?_⟩,h.2.2.1.trans c,λk a=>?_⟩
 ·have:=Br.lt h.1 k a;omega
 ·have:=h.2.2.1.size
  rcases a with a|a
  ·have:=h.2.2.2 k a;simp;omega
  ·rw[a];exact⟨by simp,this⟩
theorem AtX.bel(h:AtX X O b n w0 w cb pb kb db)(a:Bel w w'):AtX X O b n w0 w' cb pb kb db:=⟨Br.bel h.1 a,h.2.1,h.2.2.1.trans a,λk c=>⟨Nat.lt_of_lt_of_le (h.2.2.2 k c).1 a.size,(h.2.2.2 k c).2⟩⟩
theorem AtX.set(h:AtX X O b n w0 w cb pb kb db){g:Nat}(a:X g)(c:Kept (λk=>k=g) w w'):AtX X O b n w0 w' cb pb kb db:=
 ⟨Br.keep h.1 c (λj d e=>(h.2.1 j d).2 (e▸a)) (λj e=>.inl (e▸a)) (λ_ _ h=>h) λj h=>.inr h,h.2.1,h.2.2.1.of_kept c λk e=>by rw[e];exact(h.2.2.2 g a).2,λk d=>⟨Nat.lt_of_lt_of_le (h.2.2.2 k d).1 c.size,(h.2.2.2 k d).2⟩⟩
theorem AtX.turn(h:AtX X O b n w0 w cb pb kb db){E:Ending->World->Prop}{f:FuncId}{l:Array Value}
 (r:b.of n (λk=>X k\/O k) O w cb pb kb db->(∀k,X k\/O k->k<w.heap.size)->Calls Tryz.prog f l w λe w'=>E e w'/\Zq (λk=>X k\/O k) O w w' λA O w=>b'.of n' A O w cb pb kb db):
 Calls Tryz.prog f l w λe w'=>E e w'/\∃c,AtX X c b' n' w0 w' cb pb kb db/\Moves O c w w':=by
 obtain⟨m,o,p,d⟩:=h;refine(r m λk a=>a.elim (λh=>(d k h).1) (Br.lt m k)).mono ?_;rintro e w' ⟨s,c,t,i,q⟩;exact⟨s,c,⟨Br.mono t (λj _ h=>h.elim (λh=>.inl (.inl h)) .inr) λj h=>.inr h,λk a=>(q k a).elim (o k) λh=>⟨Nat.le_trans p.size h,λg=>by have:=(d k g).1;omega⟩,p.of_kept i λk a=>(o k a).1,λk g=>⟨Nat.lt_of_lt_of_le (d k g).1 i.size,(d k g).2⟩⟩,i,q⟩
theorem AtX.turnP(h:AtX X O b n w0 w cb pb kb db){pk:List Ye}{x:Int}{f:FuncId}{l:Array Value}
 (r:b.of n (λk=>X k\/O k) O w cb pb kb db->(∀k,X k\/O k->k<w.heap.size)->Calls Tryz.prog f l w λe w'=>∃ao cap,e=.returned (.tuple #[.slice ao pk.length cap,.int .i64 x])/\Zq (λk=>X k\/O k) O w w' λA O w=>b'.of n' A O w cb pb kb db/\Rd Xw A w ao cap pk):
 Calls Tryz.prog f l w λe w'=>∃ao cap a,e=.returned (.tuple #[.slice ao pk.length cap,.int .i64 x])/\AtX X a b' n' w0 w' cb pb kb db/\Rd Xw a w' ao cap pk/\Moves O a w w':=by
 obtain⟨m,o,p,d⟩:=h;refine(r m λk c=>c.elim (λh=>(d k h).1) (Br.lt m k)).mono ?_;rintro e w' ⟨ao,cap,s,a,⟨t,v⟩,i,q⟩;exact⟨ao,cap,a,s,⟨Br.mono t (λj _ h=>h.elim (λh=>.inl (.inl h)) .inr) λj h=>.inr h,λk c=>(q k c).elim (o k) λh=>⟨Nat.le_trans p.size h,λg=>by have:=(d k g).1;omega⟩,p.of_kept i λk c=>(o k c).1,λk g=>⟨Nat.lt_of_lt_of_le (d k g).1 i.size,(d k g).2⟩⟩,v.mono λ_ _ h=>.inr h,i,q⟩
theorem AtX.vote(h:AtX X O b n w0 w cb pb kb db)(g:n<198)(frm:Int)(f:i64 frm)(t:Int)(i:i64 t)(a:Bool):
 Calls Tryz.prog 32 #[.pointer (some ⟨cb,0,none⟩),.int .i64 frm,.int .i64 t,.bool a] w λe w'=>∃ao cap c,e=.returned (.tuple #[.slice ao (Bw b frm t a).1.1.length cap,.int .i64 (Bw b frm t a).1.2])/\AtX X c (Bw b frm t a).2 (n+2) w0 w' cb pb kb db/\Rd Xw c w' ao cap (Bw b frm t a).1.1/\Moves O c w w':=
 AtX.turnP h λc d=>Qra b c d g frm f t i a
theorem AtX.word(h:AtX X O b n w0 w cb pb kb db)(t:Int)(a:i64 t):Calls Tryz.prog 31 #[.pointer (some ⟨cb,0,none⟩),.int .i64 t] w λe w'=>e=.returned (.int .i64 (Qcz b t))/\Bel w w':=Qv2 b h.1 t a
theorem AtX.state(o:AtX X O b n w0 w cb pb kb db):Calls Tryz.prog 23 #[.pointer (some ⟨kb,0,none⟩)] w λe w'=>∃i c m g h a l f j d,e=.returned (.agg #[.int .i64 b.s.broker,.int .i64 b.s.nextId,.int .i64 b.s.nextSeq,.int .i64 b.s.tx,.slice i b.s.ms.length c,.slice m b.s.waits.length g,.slice h b.s.ends.length a,.slice l b.s.opens.length f,.slice j b.s.noes.length d])/\StR (λk=>k<w.heap.size) w' b.s i c m g h a l f j d/\Bel w w':=Fu o.1
end
end Go.Proofs.YtkdpmdfcdgphlaaGreat

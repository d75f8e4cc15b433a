/- Part of this claim's proof. Conditions: as its theorems say. -/
import Derived.Test.YtkdpmdfcdgphlaaGreatWLSay
set_option linter.all false
namespace Go.Po
open Go.Mem Go.Proofs.YtkdpmdfcdgphlaaGreat
def Over(b:Br)(t:Int):Prop:=Qt (λx:Branch=>x.tid) t b.s.waits=false/\(∃y,b.s.ends=[⟨t,y⟩])/\nG t b.G=0
theorem Over.ends{b:Br}{t:Int}(h:Over b t):Qt (λx:Fin=>x.tid) t b.s.ends=true:=by
 obtain⟨y,a⟩:=h.2.1;rw[a];simp[Qt]
theorem Over.over{b:Br}{t:Int}(h:Over b t):Gu b.s t=true:=by
 rw[Gu,h.ends];simp
theorem over_put{b:Br}{t:Int}(h:Over b t)(d:Zw t=true){p:Put}(c:Jg p=true):Ga b.s b.G t p=9/\Qer b t p=b:=by
 have a:Ga b.s b.G t p=9:=by rw[Ga,if_neg (by rw[d,c];simp),if_pos h.over]
 refine⟨a,?_⟩;unfold Qer;rw[if_neg (by rw[a];decide)]
theorem over_back{b:Br}{t:Int}(h:Over b t)(c:Zw t=true):Pm b.s t=9/\Qq1 b t=b:=by
 have a:Pm b.s t=9:=by rw[Pm,if_neg (by rw[c];simp),if_pos h.over]
 refine⟨a,?_⟩;unfold Qq1;rw[Co,if_neg (by rw[a];decide)]
theorem over_prep{b:Br}{t:Int}(h:Over b t)(c:Int):(Ku b.l b.s b.G t c).1=(false,0)/\Gx b t c=b:=by
 have:Ku b.l b.s b.G t c=((false,0),(b.l,b.s,b.G)):=by rw[Ku,if_neg (by rw[h.1];simp),if_pos (by rw[h.ends];simp)]
 exact⟨by rw[this],by unfold Gx;rw[this]⟩
theorem over_say{b:Br}{t:Int}(h:Over b t)(a:Bool):Qch b t a=b:=Qzc h.1 h.ends a
theorem over_take{b:Br}{t:Int}(h:Over b t)(c:Zw t=true):takeC b.s b.G t ⟨#[113]⟩=9/\Qi8 b t ⟨#[113]⟩=b:=by
 have a:takeC b.s b.G t ⟨#[113]⟩=9:=by
  rw[takeC,if_neg (by rw[c,show Jl ⟨#[113]⟩=true by decide];simp),if_pos h.over]
 refine⟨a,?_⟩;unfold Qi8;rw[Gt,if_neg (by rw[a];decide)]
def nvB(id:Int)(G:List (Int×Goes)):Br:=⟨[Z8 id],Z8 id,G,[]⟩
def nvG(t:Int)(odd:Bool):List (Int×Goes):=if odd=true then [(t,⟨1,[p17],0⟩)] else []
theorem nv_n(t:Int)(a:Bool):nG t (nvG t a)=if a=true then 1 else 0:=by
 cases a
 ·rfl
 ·simp[nvG,nG,Qn]
theorem nv_del(t:Int)(a:Bool):Xn t (nvG t a)=[]:=by
 cases a
 ·rfl
 ·simp[nvG,Xn]
theorem nv_put{id t:Int}(b:Zw t=true)(c:0<id/\id<9):Ga (Z8 id) [] t p17=0/\Qer (nvB id []) t p17=nvB id (nvG t true):=by
 have a:Ga (Z8 id) [] t p17=0:=by
  rw[Ga,if_neg (by rw[b];decide),if_neg (by simp[Gu,Z8,Qt]),if_neg (by rw[show nG t []=0 from rfl,show Qft (Z8 id) p17.q []=true from rfl];decide)]
 refine⟨a,?_⟩;show(⟨[Z8 id],Z8 id,if Ga (Z8 id) [] t p17=0 then Qu9 t p17 [] else [],[]⟩:Br)=_;rw[if_pos a];rfl
theorem nv_back{id t:Int}(c:Zw t=true)(a:Bool):Over (Qq1 (nvB id (nvG t a)) t) t:=by
 have b:Pm (Z8 id) t=0:=by rw[Pm,if_neg (by rw[c];simp),if_neg (by simp[Gu,Z8,Qt])]
 have:Qq1 (nvB id (nvG t a)) t=⟨[Qr (Z8 id) t false []],Qr (Z8 id) t false [],Xn t (nvG t a),[]⟩:=by
  show(⟨(Co _ (Z8 id) _ t).1,(Co _ (Z8 id) _ t).2.1,(Co _ (Z8 id) _ t).2.2,[]⟩:Br)=_;rw[Co,if_pos b];rfl
 rw[this,nv_del];exact⟨rfl,⟨false,rfl⟩,rfl⟩
theorem nv_prep_no{id t:Int}(f:(home t==id)=false)(g:Zw t=true)(a:Bool){c:Int}(d:c≠1\/a=false):Gx (nvB id (nvG t a)) t c=Qq1 (nvB id (nvG t a)) t:=by
 show(⟨(Ku [Z8 id] (Z8 id) (nvG t a) t c).2.1,(Ku [Z8 id] (Z8 id) (nvG t a) t c).2.2.1,(Ku [Z8 id] (Z8 id) (nvG t a) t c).2.2.2,[]⟩:Br)=_;have b:(nG t (nvG t a)==0||nG t (nvG t a)!=c)=true:=by
  rw[nv_n];cases a
  ·rfl
  ·rcases d with h|h
   ·simp;exactλe=>h e.symm
   ·cases h
 rw[Ku,if_neg (by simp[Z8,Qt]),if_neg (by rw[g,show(home t==(Z8 id).broker)=false from f];simp[Z8,Qt]),if_pos b];rfl
theorem nv_say{id t:Int}(b:(home t==id)=false)(c:Zw t=true)(a:Bool):Qch (nvB id (nvG t a)) t false=Qq1 (nvB id (nvG t a)) t:=by
 show(⟨(Bz [Z8 id] (Z8 id) (nvG t a) t false).2.1,(Bz [Z8 id] (Z8 id) (nvG t a) t false).2.2.1,(Bz [Z8 id] (Z8 id) (nvG t a) t false).2.2.2,[]⟩:Br)=_;rw[Bz,if_neg (by simp[Z8,Qt]),if_neg (by rw[c,show(home t==(Z8 id).broker)=false from b];simp[Z8,Qt])];rfl
theorem nv_prep{id t:Int}(c:(home t==id)=false)(d:Zw t=true)(say:Bool):Over (Qch (Gx (nvB id (nvG t true)) t 1) t say) t:=by
 have j:Qp (Lr t (nvG t true))=true:=by
  rw[Dn];have e:Lr t (nvG t true)=⟨4,t,0,false,[],[p17]⟩:=by simp[Lr,Qcs,nvG,Qn]
  rw[e];exact⟨by simp,d,rfl,rfl,rfl,by show((1:Nat):Int)<=Jw 4;decide,by show [p17].all Jg=true;decide⟩
 have i:Zf (Z8 id) (Lr t (nvG t true))=0:=by
  have e:Lr t (nvG t true)=⟨4,t,0,false,[],[p17]⟩:=by simp[Lr,Qcs,nvG,Qn]
  have f:Zy (Z8 id) ⟨4,t,0,false,[],[p17]⟩=false:=by
   simp only[Zy,Jj,ownB,show(home t==(Z8 id).broker)=false from c];rfl
  have a:Jf (Z8 id) ⟨4,t,0,false,[],[p17]⟩=false:=by rfl
  unfold Zf;rw[if_neg (by rw[j];simp),if_neg (by rw[e];simp[Dw,Z8,Qt]),e,if_neg (by rw[show J3 (Z8 id) ⟨4,t,0,false,[],[p17]⟩=false from rfl];simp),f,a];rfl
 have h:Gx (nvB id (nvG t true)) t 1=⟨[Qf (Z8 id) (Lr t (nvG t true))],Qf (Z8 id) (Lr t (nvG t true)),[],[]⟩:=by
  show(⟨(Ku [Z8 id] (Z8 id) (nvG t true) t 1).2.1,(Ku [Z8 id] (Z8 id) (nvG t true) t 1).2.2.1,(Ku [Z8 id] (Z8 id) (nvG t true) t 1).2.2.2,[]⟩:Br)=_;rw[Ku,if_neg (by simp[Z8,Qt]),if_neg (by rw[d,show(home t==(Z8 id).broker)=false from c];simp[Z8,Qt]),if_neg (by rw[nv_n];simp),if_pos (by rw[i];rfl),nv_del]
 have e:Lr t (nvG t true)=⟨4,t,0,false,[],[p17]⟩:=by simp[Lr,Qcs,nvG,Qn]
 rw[h,e];have f:(Qf (Z8 id) ⟨4,t,0,false,[],[p17]⟩).waits=[⟨t,[p17]⟩]:=rfl;have a:∃g,Qch ⟨[Qf (Z8 id) ⟨4,t,0,false,[],[p17]⟩],Qf (Z8 id) ⟨4,t,0,false,[],[p17]⟩,[],[]⟩ t say=⟨g,Qf (Qf (Z8 id) ⟨4,t,0,false,[],[p17]⟩) (Yq t say),[],[]⟩:=by
  unfold Qch;rw[Bz,if_pos (by rw[f];simp[Qt])];exact⟨_,rfl⟩
 obtain⟨g,a⟩:=a;rw[a];refine⟨?_,⟨say,rfl⟩,rfl⟩;show Qt (λx:Branch=>x.tid) t ((Qf (Z8 id) ⟨4,t,0,false,[],[p17]⟩).waits.filter λb=>!(b.tid==t))=false;rw[f];simp[Qt]
end Go.Po

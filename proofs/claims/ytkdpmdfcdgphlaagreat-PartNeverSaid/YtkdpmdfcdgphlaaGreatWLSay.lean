import Derived.Test.YtkdpmdfcdgphlaaGreatWLPrep
set_option linter.all false
namespace Go.Po
open Go.Mem Go.Proofs.YtkdpmdfcdgphlaaGreat
def Qkr:Put:=⟨⟨#[113]⟩,⟨#[111,108,100]⟩⟩
def Qks:Put:=⟨⟨#[114]⟩,⟨#[110,101,119]⟩⟩
def sU:Br:=(Cr a0).2
def sP:Nat->Br
 | 0=>sU
 | i+1=>Qer (sP i) u17 Qkr
def sC(k:Nat):Br:=(Uz (sP k) u17 []).2
def sT(k:Nat):Nat->Br
 | 0=>sC k
 | i+1=>Qi8 (sT k i) t17 ⟨#[113]⟩
def sN(k:Nat):Nat->Br
 | 0=>sT k k
 | i+1=>Qer (sN k i) t17 Qks
def sR(k p:Nat):Br:=Gx (sN k p) t17 ((p:Int)+(k:Int))
def sS(k p:Nat)(yes:Bool):Br:=Qch (sR k p) t17 yes
theorem Qzs:(Cr a0).1=(u17,0):=by decide +kernel
theorem Qzt:∀i,i<5->Ga (sP i).s (sP i).G u17 Qkr=0:=by decide +kernel
theorem Qzu:∀k,k<6->(Uz (sP k) u17 []).1.2=0:=by decide +kernel
theorem Qza:∀k,k<6->∀i,i<k->(takeC (sT k i).s (sT k i).G t17 ⟨#[113]⟩=0/\(Gs (sT k i).s (sT k i).G t17 ⟨#[113]⟩).b=⟨#[111,108,100]⟩):=by decide +kernel
theorem Qzv:∀k,k<6->∀i,i<5->Ga (sN k i).s (sN k i).G t17 Qks=0:=by decide +kernel
theorem Qzb:∀k,k<6->∀p,p<6->(Ku (sN k p).l (sN k p).s (sN k p).G t17 ((p:Int)+(k:Int))).1.1=decide (0<p+k):=by decide +kernel
theorem Qzw:∀k,k<6->∀p,p<6->∀a,((Bz (sR k p).l (sR k p).s (sR k p).G t17 a).1=0/\Qt (λx:Branch=>x.tid) t17 (sS k p a).s.waits=false/\Qt (λx:Fin=>x.tid) t17 (sS k p a).s.ends=true/\(sS k p a).s.ms.length=if (a&&decide (0<p+k))=true then p else k):=by decide +kernel
theorem Qzc{b:Br}{t:Int}(c:Qt (λx:Branch=>x.tid) t b.s.waits=false)(d:Qt (λx:Fin=>x.tid) t b.s.ends=true)(a:Bool):Qch b t a=b:=by
 unfold Qch;rw[Bz,if_neg (by rw[c];simp),if_pos (by rw[d];cases a<;>rfl)]
end Go.Po

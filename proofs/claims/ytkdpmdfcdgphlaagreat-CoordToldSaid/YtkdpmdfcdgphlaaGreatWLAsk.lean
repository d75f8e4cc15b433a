import Derived.Test.YtkdpmdfcdgphlaaGreatM37
set_option linter.all false
namespace Go.Po
open Go.Mem Go.Proofs.YtkdpmdfcdgphlaaGreat
def k1:Br:=(Cr a0).2
def k2:Br:=(Uz k1 u17 [⟨2,1⟩]).2
def k3(yes:Bool):Br:=(Bw k2 2 u17 yes).2
theorem Qx0:(Cr a0).1=(u17,0):=by decide +kernel
theorem Rn:k1.s.ends.map (λx=>x.tid)=[]/\k2.s.ends.map (λx=>x.tid)=[]/\(k3 true).s.ends.map (λx=>x.tid)=[u17]/\(k3 false).s.ends.map (λx=>x.tid)=[u17]:=by decide +kernel
theorem Ll:(Ml (k3 true).s u17=true/\(k3 true).s.broker=1/\Qt (λx:Qv=>x.tid) u17 (k3 true).s.noes=false)/\(Ml (k3 false).s u17=true/\(k3 false).s.broker=1/\Qt (λx:Qv=>x.tid) u17 (k3 false).s.noes=true):=by decide +kernel
theorem Mt(s:St)(t:Int):Mk s t=(s.ends.map λx=>x.tid).any λy=>y==t:=by
 unfold Mk Qt;rw[List.any_map];rfl
theorem Qgv{b:Br}{t:Int}(h:Mk b.s t=false)(frm:Int):Uo b frm t=[]:=by
 unfold Uo;split
 ·rfl
 ·rw[if_pos (by rw[h];rfl)]
theorem Qfd(frm t:Int):Uo k1 frm t=[]/\Uo k2 frm t=[]:=
 ⟨Qgv (by rw[Mt,Rn.1];rfl) frm,Qgv (by rw[Mt,Rn.2.1];rfl) frm⟩
theorem Qco(a:Bool)(frm:Int){t:Int}(h:t≠u17):Uo (k3 a) frm t=[]:=by
 refine Qgv ?_ frm;rw[Mt];cases a
 ·rw[Rn.2.2.2];simpa using λe=>h e.symm
 ·rw[Rn.2.2.1];simpa using λe=>h e.symm
theorem Qfe(a:Bool)(frm:Int):Uo (k3 a) frm u17=if Qz frm=true then [⟨3,1,frm,u17,0,a⟩] else []:=by
 unfold Uo;rcases Qz frm with _|_
 ·rfl
 ·rw[if_neg (by simp),if_pos rfl]
  cases a
  ·rw[Mt,Rn.2.2.2,Ll.2.1,Ll.2.2.1,Ll.2.2.2,if_neg (by decide)];rfl
  ·rw[Mt,Rn.2.2.1,Ll.1.1,Ll.1.2.1,Ll.1.2.2,if_neg (by decide)];rfl
end Go.Po

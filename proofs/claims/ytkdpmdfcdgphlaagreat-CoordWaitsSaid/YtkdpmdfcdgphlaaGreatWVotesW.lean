/- Part of this claim's proof. Conditions: as its theorems say. -/
import Derived.Test.YtkdpmdfcdgphlaaGreatWLAsk
import Derived.Test.YtkdpmdfcdgphlaaGreatM39
import Derived.Test.YtkdpmdfcdgphlaaGreatM32
import Derived.Test.YtkdpmdfcdgphlaaGreatM34
set_option linter.all false
namespace Go.Po
open Go.Mem Go.Proofs.YtkdpmdfcdgphlaaGreat
def shs(q:Nat)(n:Int):List Kr:=(List.range q).map fun (i:Nat)=>⟨2+(i:Int),n⟩
def vC(q:Nat)(n:Int):Br:=(Uz k1 u17 (shs q n)).2
end Go.Po
namespace Go.Po
theorem shs_take{q i:Nat}(h:i<q)(n:Int):(shs q n).take (i+1)=(shs q n).take i++[⟨2+(i:Int),n⟩]:=by
 rw[List.take_add_one];simp[shs,h]
end Go.Po
namespace Go.Proofs.YtkdpmdfcdgphlaaGreat
open Go.RowKit Go.Mem Go.Po
theorem el_share:El Tryz.prog 71 73 2 16:=El.mk' Tryz.underlying71 (z:=.agg #[.int .i64 0,.int .i64 0]) (by kernel_rfl) rfl
theorem srcSh(w:World){b:Nat}(x:Kr){T:TypeId}{c:Nat×Nat}(h:w.heap[b]?=some (.cells #[.int .i64 x.to,.int .i64 x.n] T c)):Src Tryz.prog 2 71 (.slice (some ⟨b,0,none⟩) 1 1) 1 [.int .i64 x.to,.int .i64 x.n] w:=
 Src.ofSlice w Tryz.underlying71 ⟨b,0,none⟩ 1 1 [.int .i64 x.to,.int .i64 x.n] rfl (λj d a=>by
  have:=cell_of_block h j d (by simpa using a);rw[Addr.add_lit,Nat.zero_add];exact this) (λv a=>by simp only[List.mem_cons,List.not_mem_nil,or_false]at a;rcases a with rfl|rfl<;>rfl)
end Go.Proofs.YtkdpmdfcdgphlaaGreat

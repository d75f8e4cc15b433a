import Derived.Test.YtkdpmdfcdgphlaaGreatM39
import Derived.Test.YtkdpmdfcdgphlaaGreatWLAskB
set_option linter.all false
namespace Go.Proofs.YtkdpmdfcdgphlaaGreat
open Tryz
open Go.RowKit Go.Mem Go.Po
theorem wf_i64{x:Int}(h:(Lit.int .i64 x).wf=true):i64 x:=by
 simp only[Lit.wf,Bool.and_eq_true,decide_eq_true_eq]at h;exact⟨h.1,h.2⟩
end Go.Proofs.YtkdpmdfcdgphlaaGreat

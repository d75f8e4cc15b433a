/- Part of this claim's proof. Conditions: as its theorems say. -/
import Derived.Test.YtkdpmdfcdgphlaaGreatM34
import Derived.Test.YtkdpmdfcdgphlaaGreatWCtickY
set_option linter.all false
namespace Go.Proofs.YtkdpmdfcdgphlaaGreat
open Go.RowKit Go.Mem Go.Po
section
variable {n n' : Nat} {A O : Nat → Prop} {w0 w w' : World} {cb pb kb db : Nat} {b b' : Br}
theorem At.tick(h:At O b n w0 w cb pb kb db)(f:n+b.s.opens.length<199)(d:oldK b.s.opens.length b.K):
 Calls Tryz.prog 48 #[.pointer (some ⟨cb,0,none⟩)] w λe w'=>∃ao cap a,e=.returned (.tuple #[.slice ao (tickX b).1.1.length cap,.int .i64 (tickX b).1.2])/\At a (tickX b).2 (n+b.s.opens.length) w0 w' cb pb kb db/\Rd Xw a w' ao cap (tickX b).1.1/\Moves O a w w':=
 At.turnP h λa c=>ctick_any b a c f d
end
end Go.Proofs.YtkdpmdfcdgphlaaGreat

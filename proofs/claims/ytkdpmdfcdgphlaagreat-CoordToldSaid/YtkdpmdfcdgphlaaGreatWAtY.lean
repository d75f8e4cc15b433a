/- Part of this claim's proof. Conditions: as its theorems say. -/
import Derived.Test.YtkdpmdfcdgphlaaGreatWAtX
import Derived.Test.YtkdpmdfcdgphlaaGreatWCtickY
set_option linter.all false
namespace Go.Proofs.YtkdpmdfcdgphlaaGreat
open Go.RowKit Go.Mem Go.Po
section
variable {n : Nat} {X O : Nat → Prop} {w0 w w' : World} {cb pb kb db : Nat} {b : Br}
theorem AtX.tick(h:AtX X O b n w0 w cb pb kb db)(f:n+b.s.opens.length<199)(d:oldK b.s.opens.length b.K):
 Calls Tryz.prog 48 #[.pointer (some ⟨cb,0,none⟩)] w λe w'=>∃ao cap a,e=.returned (.tuple #[.slice ao (tickX b).1.1.length cap,.int .i64 (tickX b).1.2])/\AtX X a (tickX b).2 (n+b.s.opens.length) w0 w' cb pb kb db/\Rd Xw a w' ao cap (tickX b).1.1/\Moves O a w w':=
 AtX.turnP h λa c=>ctick_any b a c f d
theorem AtX.told(h:AtX X O b n w0 w cb pb kb db)(f:n<199)(frm t:Int)(d:i64 frm)(g:i64 t):
 Calls Tryz.prog 49 #[.pointer (some ⟨cb,0,none⟩),.int .i64 frm,.int .i64 t] w λe w'=>e=.returned (.int .i64 (Qcy b frm t).1)/\∃a,AtX X a (Qcy b frm t).2 (n+1) w0 w' cb pb kb db/\Moves O a w w':=
 AtX.turn h λa c=>Qv1 b a c f frm t d g
end
end Go.Proofs.YtkdpmdfcdgphlaaGreat

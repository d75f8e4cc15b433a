import Derived.Test.YtkdpmdfcdgphlaaGreatWLRise
set_option linter.all false
/- CoordRise: all asks, followed for each broker. -/
namespace Go.Po
open Go.Mem Go.Proofs.YtkdpmdfcdgphlaaGreat
theorem rc1 : rChk 1 2 8 0 (rI 1) [] = true := by decide +kernel
theorem rc2 : rChk 2 3 8 0 (rI 2) [] = true := by decide +kernel
theorem rc3 : rChk 3 4 8 0 (rI 3) [] = true := by decide +kernel
theorem rc4 : rChk 4 5 8 0 (rI 4) [] = true := by decide +kernel
theorem rc5 : rChk 5 6 8 0 (rI 5) [] = true := by decide +kernel
theorem rc6 : rChk 6 7 8 0 (rI 6) [] = true := by decide +kernel
theorem rc7 : rChk 7 8 8 0 (rI 7) [] = true := by decide +kernel
theorem rc8 : rChk 8 1 8 0 (rI 8) [] = true := by decide +kernel
theorem rc_any {i : Int} (h0 : 0 < i) (h9 : i < 9) : rChk i (1 + Int.tmod i 8) 8 0 (rI i) [] = true := by
  have : i = 1 ∨ i = 2 ∨ i = 3 ∨ i = 4 ∨ i = 5 ∨ i = 6 ∨ i = 7 ∨ i = 8 := by omega
  rcases this with rfl | rfl | rfl | rfl | rfl | rfl | rfl | rfl
  · exact rc1
  · exact rc2
  · exact rc3
  · exact rc4
  · exact rc5
  · exact rc6
  · exact rc7
  · exact rc8
end Go.Po

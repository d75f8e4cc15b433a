/-
  No cell of these rows narrows 'for every input' (looked for: loops, veiled, ifaces, maps, wideKeys, modest, calm, conditions, laid).
  DERIVED. THE GIVEN ROWS OF THIS SEAT. 5 by the template 'for every input the law returns true; each argument reads behind the call as it read before'; 0 by the template 'total and deterministic' (their statements: YtooknplhfimieaaTotals.lean).
  GIVEN WITH THE SEED: the statements are not yours to turn. If you find one false, say at which input.
  Laid BY PROGRAM, IN A SANDBOX (cutbox-rows.mjs): the forced cells as the released guide's own fill.sh prints them over the translation af03b5f332d973c9… (all of the seat's roots in one cut). By AI agents, Wed Nov 11 2026. No macro, syntax, notation, axiom, sorry.
-/
import Derived.Test.YtooknplhfimieaaChecked
import GoSem.Claim
import GoSem.ClaimJoined
import GoSem.ClaimMapViews
import Derived.JoinedTies
import Derived.KernelRfl
namespace Go.Proofs.Ytooknplhfimieaa
/- THE CELL 'sum', in the pinned program and in every row, IS THE sha256 OF THE DUMP (.gsa) THAT YtooknplhfimieaaProg.lean LOADS. Nothing in Lean hashes anything: it is a label: what it is worth is what the hold of that sum in a sandbox is worth. -/
noncomputable def Try.pinned : Pinned := { name := "ytooknplhfimieaa", sum := "af03b5f332d973c978f692415707b8f6c1880071e483110eda98f6a53ba84237", checked := Try.checked }
namespace Rows
def none {H : Type} : Left H := { results := [], args := [] }

/-- 'postillionlaw20.OnceAll': WHATEVER THE INPUT: true; the input reads as it did. -/
def onceAllSpec : ChangeSpec := { name := "onceAll", fn := fun _ => fun
  | [d1, d2] => { results := [.lit (.bool true)], args := [d1, d2] }
  | _ => none }
def onceAllRow : OpenClaim := { program := "ytooknplhfimieaa", sum := "af03b5f332d973c978f692415707b8f6c1880071e483110eda98f6a53ba84237", func := "postillion/postillionlaw20.OnceAll", spec := "onceAll", unfollowed := true, recurses := true, apart := false }
def OnceAllSaid : Prop := onceAllRow.holds Try.pinned (OpenSpec.ofChange onceAllSpec)

/-- ITS FALSE NEIGHBOUR: 'it returns false'. Refute it at one input. -/
def onceAllWrong : ChangeSpec := { name := "onceAll", fn := fun _ => fun
  | [d1, d2] => { results := [.lit (.bool false)], args := [d1, d2] }
  | _ => none }
def OnceAllWrongFalsely : Prop := onceAllRow.holds Try.pinned (OpenSpec.ofChange onceAllWrong)

/-- 'postillionlaw20.OnceFull': WHATEVER THE INPUT: true; the input reads as it did. -/
def onceFullSpec : ChangeSpec := { name := "onceFull", fn := fun _ => fun
  | [d1, d2] => { results := [.lit (.bool true)], args := [d1, d2] }
  | _ => none }
def onceFullRow : OpenClaim := { program := "ytooknplhfimieaa", sum := "af03b5f332d973c978f692415707b8f6c1880071e483110eda98f6a53ba84237", func := "postillion/postillionlaw20.OnceFull", spec := "onceFull", unfollowed := true, recurses := true, apart := false }
def OnceFullSaid : Prop := onceFullRow.holds Try.pinned (OpenSpec.ofChange onceFullSpec)

/-- ITS FALSE NEIGHBOUR: 'it returns false'. Refute it at one input. -/
def onceFullWrong : ChangeSpec := { name := "onceFull", fn := fun _ => fun
  | [d1, d2] => { results := [.lit (.bool false)], args := [d1, d2] }
  | _ => none }
def OnceFullWrongFalsely : Prop := onceFullRow.holds Try.pinned (OpenSpec.ofChange onceFullWrong)

/-- 'postillionlaw20.OnceNone': WHATEVER THE INPUT: true; the input reads as it did. -/
def onceNoneSpec : ChangeSpec := { name := "onceNone", fn := fun _ => fun
  | [] => { results := [.lit (.bool true)], args := [] }
  | _ => none }
def onceNoneRow : OpenClaim := { program := "ytooknplhfimieaa", sum := "af03b5f332d973c978f692415707b8f6c1880071e483110eda98f6a53ba84237", func := "postillion/postillionlaw20.OnceNone", spec := "onceNone", unfollowed := true, recurses := true, apart := false }
def OnceNoneSaid : Prop := onceNoneRow.holds Try.pinned (OpenSpec.ofChange onceNoneSpec)

/-- ITS FALSE NEIGHBOUR: 'it returns false'. Refute it at one input. -/
def onceNoneWrong : ChangeSpec := { name := "onceNone", fn := fun _ => fun
  | [] => { results := [.lit (.bool false)], args := [] }
  | _ => none }
def OnceNoneWrongFalsely : Prop := onceNoneRow.holds Try.pinned (OpenSpec.ofChange onceNoneWrong)

/-- 'postillionlaw20.OnceTwice': WHATEVER THE INPUT: true; the input reads as it did. -/
def onceTwiceSpec : ChangeSpec := { name := "onceTwice", fn := fun _ => fun
  | [d1, d2, d3, d4, d5] => { results := [.lit (.bool true)], args := [d1, d2, d3, d4, d5] }
  | _ => none }
def onceTwiceRow : OpenClaim := { program := "ytooknplhfimieaa", sum := "af03b5f332d973c978f692415707b8f6c1880071e483110eda98f6a53ba84237", func := "postillion/postillionlaw20.OnceTwice", spec := "onceTwice", unfollowed := true, recurses := true, apart := false }
def OnceTwiceSaid : Prop := onceTwiceRow.holds Try.pinned (OpenSpec.ofChange onceTwiceSpec)

/-- ITS FALSE NEIGHBOUR: 'it returns false'. Refute it at one input. -/
def onceTwiceWrong : ChangeSpec := { name := "onceTwice", fn := fun _ => fun
  | [d1, d2, d3, d4, d5] => { results := [.lit (.bool false)], args := [d1, d2, d3, d4, d5] }
  | _ => none }
def OnceTwiceWrongFalsely : Prop := onceTwiceRow.holds Try.pinned (OpenSpec.ofChange onceTwiceWrong)

/-- 'postillionlaw20.OnceNumbers': WHATEVER THE INPUT: true; the input reads as it did. -/
def onceNumbersSpec : ChangeSpec := { name := "onceNumbers", fn := fun _ => fun
  | [d1, d2] => { results := [.lit (.bool true)], args := [d1, d2] }
  | _ => none }
def onceNumbersRow : OpenClaim := { program := "ytooknplhfimieaa", sum := "af03b5f332d973c978f692415707b8f6c1880071e483110eda98f6a53ba84237", func := "postillion/postillionlaw20.OnceNumbers", spec := "onceNumbers", unfollowed := true, recurses := true, apart := false }
def OnceNumbersSaid : Prop := onceNumbersRow.holds Try.pinned (OpenSpec.ofChange onceNumbersSpec)

/-- ITS FALSE NEIGHBOUR: 'it returns false'. Refute it at one input. -/
def onceNumbersWrong : ChangeSpec := { name := "onceNumbers", fn := fun _ => fun
  | [d1, d2] => { results := [.lit (.bool false)], args := [d1, d2] }
  | _ => none }
def OnceNumbersWrongFalsely : Prop := onceNumbersRow.holds Try.pinned (OpenSpec.ofChange onceNumbersWrong)

/- THE SECOND FORM. 'bulk': how many values and letters a reading holds, each counted each time it is reached (what is shared counts as often as it is met; a slice's spare places count too). A statement '..UptoSaid' is the law's where the arguments, and the package variables that the reading takes, are together of bulk at most 1048576: NARROWER than '..Said'. Prove '..Said' where nothing that the law and all that it calls make is longer than what came in: it says more and counts as full. Else prove '..UptoSaid'. A law counts once. -/
mutual
def uptoBulk {H : Type} : DataW H → Nat
  | .lit (.string bytes) => bytes.length + 1
  | .lit _ => 1
  | .nil => 1
  | .ptr d => uptoBulk d + 1
  | .slice elems spare => uptoBulkAll elems + uptoBulkAll spare + 1
  | .agg parts => uptoBulkAll parts + 1
  | .iface _ d => uptoBulk d + 1
  | .map entries => uptoBulkEntries entries + 1
  | .held _ => 1
def uptoBulkAll {H : Type} : List (DataW H) → Nat
  | [] => 0
  | d :: r => uptoBulk d + uptoBulkAll r
def uptoBulkEntries {H : Type} : List (Lit × DataW H) → Nat
  | [] => 0
  | x :: r => uptoBulkEntry x + uptoBulkEntries r
def uptoBulkEntry {H : Type} : Lit × DataW H → Nat
  | (.string bytes, d) => bytes.length + uptoBulk d + 1
  | (_, d) => uptoBulk d + 1
 end
def uptoSmall : (H : Type) → List (DataW H) → Bool := fun _ ds => decide (uptoBulkAll ds ≤ 1048576)
def OpenSpec.upto (s : _root_.Go.ChangeSpec) : _root_.Go.OpenSpec := { _root_.Go.OpenSpec.ofChange s with cond := some uptoSmall }

/-- 'postillionlaw20.OnceAll', WHERE WHAT IT READS IS OF BULK AT MOST 1048576: true; the input reads as it did. -/
def onceAllUptoRow : OpenClaim := { program := "ytooknplhfimieaa", sum := "af03b5f332d973c978f692415707b8f6c1880071e483110eda98f6a53ba84237", func := "postillion/postillionlaw20.OnceAll", spec := "onceAll", unfollowed := true, recurses := true, apart := false, narrowed := true }
def OnceAllUptoSaid : Prop := onceAllUptoRow.holds Try.pinned (OpenSpec.upto onceAllSpec)

/-- 'postillionlaw20.OnceFull', WHERE WHAT IT READS IS OF BULK AT MOST 1048576: true; the input reads as it did. -/
def onceFullUptoRow : OpenClaim := { program := "ytooknplhfimieaa", sum := "af03b5f332d973c978f692415707b8f6c1880071e483110eda98f6a53ba84237", func := "postillion/postillionlaw20.OnceFull", spec := "onceFull", unfollowed := true, recurses := true, apart := false, narrowed := true }
def OnceFullUptoSaid : Prop := onceFullUptoRow.holds Try.pinned (OpenSpec.upto onceFullSpec)

/-- 'postillionlaw20.OnceNone', WHERE WHAT IT READS IS OF BULK AT MOST 1048576: true; the input reads as it did. -/
def onceNoneUptoRow : OpenClaim := { program := "ytooknplhfimieaa", sum := "af03b5f332d973c978f692415707b8f6c1880071e483110eda98f6a53ba84237", func := "postillion/postillionlaw20.OnceNone", spec := "onceNone", unfollowed := true, recurses := true, apart := false, narrowed := true }
def OnceNoneUptoSaid : Prop := onceNoneUptoRow.holds Try.pinned (OpenSpec.upto onceNoneSpec)

/-- 'postillionlaw20.OnceTwice', WHERE WHAT IT READS IS OF BULK AT MOST 1048576: true; the input reads as it did. -/
def onceTwiceUptoRow : OpenClaim := { program := "ytooknplhfimieaa", sum := "af03b5f332d973c978f692415707b8f6c1880071e483110eda98f6a53ba84237", func := "postillion/postillionlaw20.OnceTwice", spec := "onceTwice", unfollowed := true, recurses := true, apart := false, narrowed := true }
def OnceTwiceUptoSaid : Prop := onceTwiceUptoRow.holds Try.pinned (OpenSpec.upto onceTwiceSpec)

/-- 'postillionlaw20.OnceNumbers', WHERE WHAT IT READS IS OF BULK AT MOST 1048576: true; the input reads as it did. -/
def onceNumbersUptoRow : OpenClaim := { program := "ytooknplhfimieaa", sum := "af03b5f332d973c978f692415707b8f6c1880071e483110eda98f6a53ba84237", func := "postillion/postillionlaw20.OnceNumbers", spec := "onceNumbers", unfollowed := true, recurses := true, apart := false, narrowed := true }
def OnceNumbersUptoSaid : Prop := onceNumbersUptoRow.holds Try.pinned (OpenSpec.upto onceNumbersSpec)

end Rows
end Go.Proofs.Ytooknplhfimieaa

/-
  No cell of these rows narrows 'for every input' (looked for: loops, veiled, ifaces, maps, wideKeys, modest, calm, conditions, laid).
  DERIVED. THE GIVEN ROWS OF THIS SEAT. 6 by the template 'for every input the law returns true; each argument reads behind the call as it read before'; 0 by the template 'total and deterministic' (their statements: YtbfldeeggbnhiaaTotals.lean).
  GIVEN WITH THE SEED: the statements are not yours to turn. If you find one false, say at which input.
  Laid BY PROGRAM, IN A SANDBOX (cutbox-rows.mjs): the forced cells as the released guide's own fill.sh prints them over the translation 512f97d1f22d4bdc… (all of the seat's roots in one cut). By AI agents, Wed Nov 11 2026. No macro, syntax, notation, axiom, sorry.
-/
import Derived.Test.YtbfldeeggbnhiaaChecked
import GoSem.Claim
import GoSem.ClaimJoined
import GoSem.ClaimMapViews
import Derived.JoinedTies
import Derived.KernelRfl
namespace Go.Proofs.Ytbfldeeggbnhiaa
/- THE CELL 'sum', in the pinned program and in every row, IS THE sha256 OF THE DUMP (.gsa) THAT YtbfldeeggbnhiaaProg.lean LOADS. Nothing in Lean hashes anything: it is a label: what it is worth is what the hold of that sum in a sandbox is worth. -/
noncomputable def Try.pinned : Pinned := { name := "ytbfldeeggbnhiaa", sum := "512f97d1f22d4bdcce616862558b3b5d2715ae2211e1c7d59a231f5d8236661a", checked := Try.checked }
namespace Rows
def none {H : Type} : Left H := { results := [], args := [] }

/-- 'postillionlaw0.Names': WHATEVER THE INPUT: true; the input reads as it did. -/
def namesSpec : ChangeSpec := { name := "names", fn := fun _ => fun
  | [] => { results := [.lit (.bool true)], args := [] }
  | _ => none }
def namesRow : OpenClaim := { program := "ytbfldeeggbnhiaa", sum := "512f97d1f22d4bdcce616862558b3b5d2715ae2211e1c7d59a231f5d8236661a", func := "postillion/postillionlaw0.Names", spec := "names", apart := false }
def NamesSaid : Prop := namesRow.holds Try.pinned (OpenSpec.ofChange namesSpec)

/-- ITS FALSE NEIGHBOUR: 'it returns false'. Refute it at one input. -/
def namesWrong : ChangeSpec := { name := "names", fn := fun _ => fun
  | [] => { results := [.lit (.bool false)], args := [] }
  | _ => none }
def NamesWrongFalsely : Prop := namesRow.holds Try.pinned (OpenSpec.ofChange namesWrong)

/-- 'postillionlaw5.HatchAll': WHATEVER THE INPUT: true; the input reads as it did. -/
def hatchAllSpec : ChangeSpec := { name := "hatchAll", fn := fun _ => fun
  | [d1, d2] => { results := [.lit (.bool true)], args := [d1, d2] }
  | _ => none }
def hatchAllRow : OpenClaim := { program := "ytbfldeeggbnhiaa", sum := "512f97d1f22d4bdcce616862558b3b5d2715ae2211e1c7d59a231f5d8236661a", func := "postillion/postillionlaw5.HatchAll", spec := "hatchAll", apart := false }
def HatchAllSaid : Prop := hatchAllRow.holds Try.pinned (OpenSpec.ofChange hatchAllSpec)

/-- ITS FALSE NEIGHBOUR: 'it returns false'. Refute it at one input. -/
def hatchAllWrong : ChangeSpec := { name := "hatchAll", fn := fun _ => fun
  | [d1, d2] => { results := [.lit (.bool false)], args := [d1, d2] }
  | _ => none }
def HatchAllWrongFalsely : Prop := hatchAllRow.holds Try.pinned (OpenSpec.ofChange hatchAllWrong)

/-- 'postillionlaw5.HatchFull': WHATEVER THE INPUT: true; the input reads as it did. -/
def hatchFullSpec : ChangeSpec := { name := "hatchFull", fn := fun _ => fun
  | [d1, d2, d3] => { results := [.lit (.bool true)], args := [d1, d2, d3] }
  | _ => none }
def hatchFullRow : OpenClaim := { program := "ytbfldeeggbnhiaa", sum := "512f97d1f22d4bdcce616862558b3b5d2715ae2211e1c7d59a231f5d8236661a", func := "postillion/postillionlaw5.HatchFull", spec := "hatchFull", apart := false }
def HatchFullSaid : Prop := hatchFullRow.holds Try.pinned (OpenSpec.ofChange hatchFullSpec)

/-- ITS FALSE NEIGHBOUR: 'it returns false'. Refute it at one input. -/
def hatchFullWrong : ChangeSpec := { name := "hatchFull", fn := fun _ => fun
  | [d1, d2, d3] => { results := [.lit (.bool false)], args := [d1, d2, d3] }
  | _ => none }
def HatchFullWrongFalsely : Prop := hatchFullRow.holds Try.pinned (OpenSpec.ofChange hatchFullWrong)

/-- 'postillionlaw5.HatchNone': WHATEVER THE INPUT: true; the input reads as it did. -/
def hatchNoneSpec : ChangeSpec := { name := "hatchNone", fn := fun _ => fun
  | [] => { results := [.lit (.bool true)], args := [] }
  | _ => none }
def hatchNoneRow : OpenClaim := { program := "ytbfldeeggbnhiaa", sum := "512f97d1f22d4bdcce616862558b3b5d2715ae2211e1c7d59a231f5d8236661a", func := "postillion/postillionlaw5.HatchNone", spec := "hatchNone", apart := false }
def HatchNoneSaid : Prop := hatchNoneRow.holds Try.pinned (OpenSpec.ofChange hatchNoneSpec)

/-- ITS FALSE NEIGHBOUR: 'it returns false'. Refute it at one input. -/
def hatchNoneWrong : ChangeSpec := { name := "hatchNone", fn := fun _ => fun
  | [] => { results := [.lit (.bool false)], args := [] }
  | _ => none }
def HatchNoneWrongFalsely : Prop := hatchNoneRow.holds Try.pinned (OpenSpec.ofChange hatchNoneWrong)

/-- 'postillionlaw5.HatchOrder': WHATEVER THE INPUT: true; the input reads as it did. -/
def hatchOrderSpec : ChangeSpec := { name := "hatchOrder", fn := fun _ => fun
  | [d] => { results := [.lit (.bool true)], args := [d] }
  | _ => none }
def hatchOrderRow : OpenClaim := { program := "ytbfldeeggbnhiaa", sum := "512f97d1f22d4bdcce616862558b3b5d2715ae2211e1c7d59a231f5d8236661a", func := "postillion/postillionlaw5.HatchOrder", spec := "hatchOrder", apart := false }
def HatchOrderSaid : Prop := hatchOrderRow.holds Try.pinned (OpenSpec.ofChange hatchOrderSpec)

/-- ITS FALSE NEIGHBOUR: 'it returns false'. Refute it at one input. -/
def hatchOrderWrong : ChangeSpec := { name := "hatchOrder", fn := fun _ => fun
  | [d] => { results := [.lit (.bool false)], args := [d] }
  | _ => none }
def HatchOrderWrongFalsely : Prop := hatchOrderRow.holds Try.pinned (OpenSpec.ofChange hatchOrderWrong)

/-- 'postillionlaw5.HatchRound': WHATEVER THE INPUT: true; the input reads as it did. -/
def hatchRoundSpec : ChangeSpec := { name := "hatchRound", fn := fun _ => fun
  | [d1, d2, d3] => { results := [.lit (.bool true)], args := [d1, d2, d3] }
  | _ => none }
def hatchRoundRow : OpenClaim := { program := "ytbfldeeggbnhiaa", sum := "512f97d1f22d4bdcce616862558b3b5d2715ae2211e1c7d59a231f5d8236661a", func := "postillion/postillionlaw5.HatchRound", spec := "hatchRound", apart := false }
def HatchRoundSaid : Prop := hatchRoundRow.holds Try.pinned (OpenSpec.ofChange hatchRoundSpec)

/-- ITS FALSE NEIGHBOUR: 'it returns false'. Refute it at one input. -/
def hatchRoundWrong : ChangeSpec := { name := "hatchRound", fn := fun _ => fun
  | [d1, d2, d3] => { results := [.lit (.bool false)], args := [d1, d2, d3] }
  | _ => none }
def HatchRoundWrongFalsely : Prop := hatchRoundRow.holds Try.pinned (OpenSpec.ofChange hatchRoundWrong)

/- THE SECOND FORM. 'bulk': how many values and letters a reading holds, each counted each time it is reached (what is shared counts as often as it is met; a slice's spare places count too). A statement '..UptoSaid' is the law's where the arguments, and the package variables that the reading takes, are together of bulk at most 1048576: NARROWER than '..Said'. Prove '..Said' where nothing that the law and all that it calls make is longer than what came in: it says more and counts as full. Else prove '..UptoSaid'. A law counts once. -/
mutual
def uptoBulk {H : Type} : DataW H → Nat
  | .lit (.string bytes) => bytes.length + 1
  | .lit _ => 1
  | .nil => 1
  | .ptr d => uptoBulk d + 1
  | .slice elems spare => uptoBulkAll elems + uptoBulkAll spare + 1
  | .agg parts => uptoBulkAll parts + 1
  | .iface _ d => uptoBulk d + 1
  | .map entries => uptoBulkEntries entries + 1
  | .held _ => 1
def uptoBulkAll {H : Type} : List (DataW H) → Nat
  | [] => 0
  | d :: r => uptoBulk d + uptoBulkAll r
def uptoBulkEntries {H : Type} : List (Lit × DataW H) → Nat
  | [] => 0
  | x :: r => uptoBulkEntry x + uptoBulkEntries r
def uptoBulkEntry {H : Type} : Lit × DataW H → Nat
  | (.string bytes, d) => bytes.length + uptoBulk d + 1
  | (_, d) => uptoBulk d + 1
 end
def uptoSmall : (H : Type) → List (DataW H) → Bool := fun _ ds => decide (uptoBulkAll ds ≤ 1048576)
def OpenSpec.upto (s : _root_.Go.ChangeSpec) : _root_.Go.OpenSpec := { _root_.Go.OpenSpec.ofChange s with cond := some uptoSmall }

/-- 'postillionlaw0.Names', WHERE WHAT IT READS IS OF BULK AT MOST 1048576: true; the input reads as it did. -/
def namesUptoRow : OpenClaim := { program := "ytbfldeeggbnhiaa", sum := "512f97d1f22d4bdcce616862558b3b5d2715ae2211e1c7d59a231f5d8236661a", func := "postillion/postillionlaw0.Names", spec := "names", apart := false, narrowed := true }
def NamesUptoSaid : Prop := namesUptoRow.holds Try.pinned (OpenSpec.upto namesSpec)

/-- 'postillionlaw5.HatchAll', WHERE WHAT IT READS IS OF BULK AT MOST 1048576: true; the input reads as it did. -/
def hatchAllUptoRow : OpenClaim := { program := "ytbfldeeggbnhiaa", sum := "512f97d1f22d4bdcce616862558b3b5d2715ae2211e1c7d59a231f5d8236661a", func := "postillion/postillionlaw5.HatchAll", spec := "hatchAll", apart := false, narrowed := true }
def HatchAllUptoSaid : Prop := hatchAllUptoRow.holds Try.pinned (OpenSpec.upto hatchAllSpec)

/-- 'postillionlaw5.HatchFull', WHERE WHAT IT READS IS OF BULK AT MOST 1048576: true; the input reads as it did. -/
def hatchFullUptoRow : OpenClaim := { program := "ytbfldeeggbnhiaa", sum := "512f97d1f22d4bdcce616862558b3b5d2715ae2211e1c7d59a231f5d8236661a", func := "postillion/postillionlaw5.HatchFull", spec := "hatchFull", apart := false, narrowed := true }
def HatchFullUptoSaid : Prop := hatchFullUptoRow.holds Try.pinned (OpenSpec.upto hatchFullSpec)

/-- 'postillionlaw5.HatchNone', WHERE WHAT IT READS IS OF BULK AT MOST 1048576: true; the input reads as it did. -/
def hatchNoneUptoRow : OpenClaim := { program := "ytbfldeeggbnhiaa", sum := "512f97d1f22d4bdcce616862558b3b5d2715ae2211e1c7d59a231f5d8236661a", func := "postillion/postillionlaw5.HatchNone", spec := "hatchNone", apart := false, narrowed := true }
def HatchNoneUptoSaid : Prop := hatchNoneUptoRow.holds Try.pinned (OpenSpec.upto hatchNoneSpec)

/-- 'postillionlaw5.HatchOrder', WHERE WHAT IT READS IS OF BULK AT MOST 1048576: true; the input reads as it did. -/
def hatchOrderUptoRow : OpenClaim := { program := "ytbfldeeggbnhiaa", sum := "512f97d1f22d4bdcce616862558b3b5d2715ae2211e1c7d59a231f5d8236661a", func := "postillion/postillionlaw5.HatchOrder", spec := "hatchOrder", apart := false, narrowed := true }
def HatchOrderUptoSaid : Prop := hatchOrderUptoRow.holds Try.pinned (OpenSpec.upto hatchOrderSpec)

/-- 'postillionlaw5.HatchRound', WHERE WHAT IT READS IS OF BULK AT MOST 1048576: true; the input reads as it did. -/
def hatchRoundUptoRow : OpenClaim := { program := "ytbfldeeggbnhiaa", sum := "512f97d1f22d4bdcce616862558b3b5d2715ae2211e1c7d59a231f5d8236661a", func := "postillion/postillionlaw5.HatchRound", spec := "hatchRound", apart := false, narrowed := true }
def HatchRoundUptoSaid : Prop := hatchRoundUptoRow.holds Try.pinned (OpenSpec.upto hatchRoundSpec)

end Rows
end Go.Proofs.Ytbfldeeggbnhiaa

/-
  No cell of these rows narrows 'for every input' (looked for: loops, veiled, ifaces, maps, wideKeys, modest, calm, conditions, laid).
  DERIVED. THE GIVEN ROWS OF THIS SEAT. 12 by the template 'for every input the law returns true; each argument reads behind the call as it read before'; 0 by the template 'total and deterministic' (their statements: YtkdpmdfcdgphlaaGreatTotals.lean).
  GIVEN WITH THE SEED: the statements are not yours to turn. If you find one false, say at which input.
  Laid BY PROGRAM, IN A SANDBOX (cutbox-rows.mjs): the forced cells as the released guide's own fill.sh prints them over the translation f7ffb136489b1441… (all of the seat's roots in one cut). By AI agents, Wed Nov 11 2026. No macro, syntax, notation, axiom, sorry.
-/
import Derived.Test.YtkdpmdfcdgphlaaGreatChecked
import GoSem.Claim
import GoSem.ClaimJoined
import GoSem.ClaimMapViews
import Derived.JoinedTies
import Derived.KernelRfl
namespace Go.Proofs.YtkdpmdfcdgphlaaGreat
/- THE CELL 'sum', in the pinned program and in every row, IS THE sha256 OF THE DUMP (.gsa) THAT YtkdpmdfcdgphlaaGreatProg.lean LOADS. Nothing in Lean hashes anything: it is a label: what it is worth is what the hold of that sum in a sandbox is worth. -/
noncomputable def Tryz.pinned : Pinned := { name := "ytkdpmdfcdgphlaagreat", sum := "f7ffb136489b1441657e366ad580acd4922999b767adfe03ea92cff9c5a0e3c7", checked := Tryz.checked }
namespace Rows
def none {H : Type} : Left H := { results := [], args := [] }

/-- 'postillionlaw17.PartNever': WHATEVER THE INPUT: true; the input reads as it did. -/
def partNeverSpec : ChangeSpec := { name := "partNever", fn := fun _ => fun
  | [d1, d2, d3, d4, d5] => { results := [.lit (.bool true)], args := [d1, d2, d3, d4, d5] }
  | _ => none }
def partNeverRow : OpenClaim := { program := "ytkdpmdfcdgphlaagreat", sum := "f7ffb136489b1441657e366ad580acd4922999b767adfe03ea92cff9c5a0e3c7", func := "postillion/postillionlaw17.PartNever", spec := "partNever", inPlace := ["slices.overlaps[postillion/api.End]", "slices.overlaps[postillion/api.Branch]", "slices.overlaps[postillion/api.Pend]", "slices.overlaps[postillion/bag.some[string]]"], unfollowed := true, recurses := true, apart := false }
def PartNeverSaid : Prop := partNeverRow.holds Tryz.pinned (OpenSpec.ofChange partNeverSpec)

/-- ITS FALSE NEIGHBOUR: 'it returns false'. Refute it at one input. -/
def partNeverWrong : ChangeSpec := { name := "partNever", fn := fun _ => fun
  | [d1, d2, d3, d4, d5] => { results := [.lit (.bool false)], args := [d1, d2, d3, d4, d5] }
  | _ => none }
def PartNeverWrongFalsely : Prop := partNeverRow.holds Tryz.pinned (OpenSpec.ofChange partNeverWrong)

/-- 'postillionlaw17.PartPrepare': WHATEVER THE INPUT: true; the input reads as it did. -/
def partPrepareSpec : ChangeSpec := { name := "partPrepare", fn := fun _ => fun
  | [d1, d2] => { results := [.lit (.bool true)], args := [d1, d2] }
  | _ => none }
def partPrepareRow : OpenClaim := { program := "ytkdpmdfcdgphlaagreat", sum := "f7ffb136489b1441657e366ad580acd4922999b767adfe03ea92cff9c5a0e3c7", func := "postillion/postillionlaw17.PartPrepare", spec := "partPrepare", inPlace := ["slices.overlaps[postillion/api.End]", "slices.overlaps[postillion/api.Branch]", "slices.overlaps[postillion/api.Pend]", "slices.overlaps[postillion/bag.some[string]]"], unfollowed := true, recurses := true, apart := false }
def PartPrepareSaid : Prop := partPrepareRow.holds Tryz.pinned (OpenSpec.ofChange partPrepareSpec)

/-- ITS FALSE NEIGHBOUR: 'it returns false'. Refute it at one input. -/
def partPrepareWrong : ChangeSpec := { name := "partPrepare", fn := fun _ => fun
  | [d1, d2] => { results := [.lit (.bool false)], args := [d1, d2] }
  | _ => none }
def PartPrepareWrongFalsely : Prop := partPrepareRow.holds Tryz.pinned (OpenSpec.ofChange partPrepareWrong)

/-- 'postillionlaw17.PartSay': WHATEVER THE INPUT: true; the input reads as it did. -/
def partSaySpec : ChangeSpec := { name := "partSay", fn := fun _ => fun
  | [d1, d2, d3, d4] => { results := [.lit (.bool true)], args := [d1, d2, d3, d4] }
  | _ => none }
def partSayRow : OpenClaim := { program := "ytkdpmdfcdgphlaagreat", sum := "f7ffb136489b1441657e366ad580acd4922999b767adfe03ea92cff9c5a0e3c7", func := "postillion/postillionlaw17.PartSay", spec := "partSay", inPlace := ["slices.overlaps[postillion/api.End]", "slices.overlaps[postillion/api.Branch]", "slices.overlaps[postillion/api.Pend]", "slices.overlaps[postillion/bag.some[string]]"], unfollowed := true, recurses := true, apart := false }
def PartSaySaid : Prop := partSayRow.holds Tryz.pinned (OpenSpec.ofChange partSaySpec)

/-- ITS FALSE NEIGHBOUR: 'it returns false'. Refute it at one input. -/
def partSayWrong : ChangeSpec := { name := "partSay", fn := fun _ => fun
  | [d1, d2, d3, d4] => { results := [.lit (.bool false)], args := [d1, d2, d3, d4] }
  | _ => none }
def PartSayWrongFalsely : Prop := partSayRow.holds Tryz.pinned (OpenSpec.ofChange partSayWrong)

/-- 'postillionlaw17.PartRoom': WHATEVER THE INPUT: true; the input reads as it did. -/
def partRoomSpec : ChangeSpec := { name := "partRoom", fn := fun _ => fun
  | [d1, d2] => { results := [.lit (.bool true)], args := [d1, d2] }
  | _ => none }
def partRoomRow : OpenClaim := { program := "ytkdpmdfcdgphlaagreat", sum := "f7ffb136489b1441657e366ad580acd4922999b767adfe03ea92cff9c5a0e3c7", func := "postillion/postillionlaw17.PartRoom", spec := "partRoom", inPlace := ["slices.overlaps[postillion/api.End]", "slices.overlaps[postillion/api.Branch]", "slices.overlaps[postillion/api.Pend]", "slices.overlaps[postillion/bag.some[string]]"], unfollowed := true, recurses := true, apart := false }
def PartRoomSaid : Prop := partRoomRow.holds Tryz.pinned (OpenSpec.ofChange partRoomSpec)

/-- ITS FALSE NEIGHBOUR: 'it returns false'. Refute it at one input. -/
def partRoomWrong : ChangeSpec := { name := "partRoom", fn := fun _ => fun
  | [d1, d2] => { results := [.lit (.bool false)], args := [d1, d2] }
  | _ => none }
def PartRoomWrongFalsely : Prop := partRoomRow.holds Tryz.pinned (OpenSpec.ofChange partRoomWrong)

/-- 'postillionlaw17.CoordVotes': WHATEVER THE INPUT: true; the input reads as it did. -/
def coordVotesSpec : ChangeSpec := { name := "coordVotes", fn := fun _ => fun
  | [d1, d2, d3] => { results := [.lit (.bool true)], args := [d1, d2, d3] }
  | _ => none }
def coordVotesRow : OpenClaim := { program := "ytkdpmdfcdgphlaagreat", sum := "f7ffb136489b1441657e366ad580acd4922999b767adfe03ea92cff9c5a0e3c7", func := "postillion/postillionlaw17.CoordVotes", spec := "coordVotes", inPlace := ["slices.overlaps[postillion/api.End]", "slices.overlaps[postillion/api.Branch]", "slices.overlaps[postillion/api.Pend]", "slices.overlaps[postillion/bag.some[string]]"], unfollowed := true, recurses := true, apart := false }
def CoordVotesSaid : Prop := coordVotesRow.holds Tryz.pinned (OpenSpec.ofChange coordVotesSpec)

/-- ITS FALSE NEIGHBOUR: 'it returns false'. Refute it at one input. -/
def coordVotesWrong : ChangeSpec := { name := "coordVotes", fn := fun _ => fun
  | [d1, d2, d3] => { results := [.lit (.bool false)], args := [d1, d2, d3] }
  | _ => none }
def CoordVotesWrongFalsely : Prop := coordVotesRow.holds Tryz.pinned (OpenSpec.ofChange coordVotesWrong)

/-- 'postillionlaw17.CoordAsk': WHATEVER THE INPUT: true; the input reads as it did. -/
def coordAskSpec : ChangeSpec := { name := "coordAsk", fn := fun _ => fun
  | [d1, d2, d3] => { results := [.lit (.bool true)], args := [d1, d2, d3] }
  | _ => none }
def coordAskRow : OpenClaim := { program := "ytkdpmdfcdgphlaagreat", sum := "f7ffb136489b1441657e366ad580acd4922999b767adfe03ea92cff9c5a0e3c7", func := "postillion/postillionlaw17.CoordAsk", spec := "coordAsk", inPlace := ["slices.overlaps[postillion/api.End]", "slices.overlaps[postillion/api.Branch]", "slices.overlaps[postillion/api.Pend]", "slices.overlaps[postillion/bag.some[string]]"], unfollowed := true, recurses := true, apart := false }
def CoordAskSaid : Prop := coordAskRow.holds Tryz.pinned (OpenSpec.ofChange coordAskSpec)

/-- ITS FALSE NEIGHBOUR: 'it returns false'. Refute it at one input. -/
def coordAskWrong : ChangeSpec := { name := "coordAsk", fn := fun _ => fun
  | [d1, d2, d3] => { results := [.lit (.bool false)], args := [d1, d2, d3] }
  | _ => none }
def CoordAskWrongFalsely : Prop := coordAskRow.holds Tryz.pinned (OpenSpec.ofChange coordAskWrong)

/-- 'postillionlaw17.CoordRise': WHATEVER THE INPUT: true; the input reads as it did. -/
def coordRiseSpec : ChangeSpec := { name := "coordRise", fn := fun _ => fun
  | [d1, d2, d3] => { results := [.lit (.bool true)], args := [d1, d2, d3] }
  | _ => none }
def coordRiseRow : OpenClaim := { program := "ytkdpmdfcdgphlaagreat", sum := "f7ffb136489b1441657e366ad580acd4922999b767adfe03ea92cff9c5a0e3c7", func := "postillion/postillionlaw17.CoordRise", spec := "coordRise", inPlace := ["slices.overlaps[postillion/api.End]", "slices.overlaps[postillion/api.Branch]", "slices.overlaps[postillion/api.Pend]", "slices.overlaps[postillion/bag.some[string]]"], unfollowed := true, recurses := true, apart := false }
def CoordRiseSaid : Prop := coordRiseRow.holds Tryz.pinned (OpenSpec.ofChange coordRiseSpec)

/-- ITS FALSE NEIGHBOUR: 'it returns false'. Refute it at one input. -/
def coordRiseWrong : ChangeSpec := { name := "coordRise", fn := fun _ => fun
  | [d1, d2, d3] => { results := [.lit (.bool false)], args := [d1, d2, d3] }
  | _ => none }
def CoordRiseWrongFalsely : Prop := coordRiseRow.holds Tryz.pinned (OpenSpec.ofChange coordRiseWrong)

/-- 'postillionlaw17.PartAll': WHATEVER THE INPUT: true; the input reads as it did. -/
def partAllSpec : ChangeSpec := { name := "partAll", fn := fun _ => fun
  | [d1, d2] => { results := [.lit (.bool true)], args := [d1, d2] }
  | _ => none }
def partAllRow : OpenClaim := { program := "ytkdpmdfcdgphlaagreat", sum := "f7ffb136489b1441657e366ad580acd4922999b767adfe03ea92cff9c5a0e3c7", func := "postillion/postillionlaw17.PartAll", spec := "partAll", inPlace := ["slices.overlaps[postillion/api.End]", "slices.overlaps[postillion/api.Branch]", "slices.overlaps[postillion/api.Pend]", "slices.overlaps[postillion/bag.some[string]]"], unfollowed := true, recurses := true, apart := false }
def PartAllSaid : Prop := partAllRow.holds Tryz.pinned (OpenSpec.ofChange partAllSpec)

/-- ITS FALSE NEIGHBOUR: 'it returns false'. Refute it at one input. -/
def partAllWrong : ChangeSpec := { name := "partAll", fn := fun _ => fun
  | [d1, d2] => { results := [.lit (.bool false)], args := [d1, d2] }
  | _ => none }
def PartAllWrongFalsely : Prop := partAllRow.holds Tryz.pinned (OpenSpec.ofChange partAllWrong)

/-- 'postillionlaw17.CoordWaits': WHATEVER THE INPUT: true; the input reads as it did. -/
def coordWaitsSpec : ChangeSpec := { name := "coordWaits", fn := fun _ => fun
  | [d1, d2, d3] => { results := [.lit (.bool true)], args := [d1, d2, d3] }
  | _ => none }
def coordWaitsRow : OpenClaim := { program := "ytkdpmdfcdgphlaagreat", sum := "f7ffb136489b1441657e366ad580acd4922999b767adfe03ea92cff9c5a0e3c7", func := "postillion/postillionlaw17.CoordWaits", spec := "coordWaits", inPlace := ["slices.overlaps[postillion/api.End]", "slices.overlaps[postillion/api.Branch]", "slices.overlaps[postillion/api.Pend]", "slices.overlaps[postillion/bag.some[string]]"], unfollowed := true, recurses := true, apart := false }
def CoordWaitsSaid : Prop := coordWaitsRow.holds Tryz.pinned (OpenSpec.ofChange coordWaitsSpec)

/-- ITS FALSE NEIGHBOUR: 'it returns false'. Refute it at one input. -/
def coordWaitsWrong : ChangeSpec := { name := "coordWaits", fn := fun _ => fun
  | [d1, d2, d3] => { results := [.lit (.bool false)], args := [d1, d2, d3] }
  | _ => none }
def CoordWaitsWrongFalsely : Prop := coordWaitsRow.holds Tryz.pinned (OpenSpec.ofChange coordWaitsWrong)

/-- 'postillionlaw17.CoordTold': WHATEVER THE INPUT: true; the input reads as it did. -/
def coordToldSpec : ChangeSpec := { name := "coordTold", fn := fun _ => fun
  | [d1, d2] => { results := [.lit (.bool true)], args := [d1, d2] }
  | _ => none }
def coordToldRow : OpenClaim := { program := "ytkdpmdfcdgphlaagreat", sum := "f7ffb136489b1441657e366ad580acd4922999b767adfe03ea92cff9c5a0e3c7", func := "postillion/postillionlaw17.CoordTold", spec := "coordTold", inPlace := ["slices.overlaps[postillion/api.End]", "slices.overlaps[postillion/api.Branch]", "slices.overlaps[postillion/api.Pend]", "slices.overlaps[postillion/bag.some[string]]"], unfollowed := true, recurses := true, apart := false }
def CoordToldSaid : Prop := coordToldRow.holds Tryz.pinned (OpenSpec.ofChange coordToldSpec)

/-- ITS FALSE NEIGHBOUR: 'it returns false'. Refute it at one input. -/
def coordToldWrong : ChangeSpec := { name := "coordTold", fn := fun _ => fun
  | [d1, d2] => { results := [.lit (.bool false)], args := [d1, d2] }
  | _ => none }
def CoordToldWrongFalsely : Prop := coordToldRow.holds Tryz.pinned (OpenSpec.ofChange coordToldWrong)

/-- 'postillionlaw17.PartTicks': WHATEVER THE INPUT: true; the input reads as it did. -/
def partTicksSpec : ChangeSpec := { name := "partTicks", fn := fun _ => fun
  | [d1, d2, d3] => { results := [.lit (.bool true)], args := [d1, d2, d3] }
  | _ => none }
def partTicksRow : OpenClaim := { program := "ytkdpmdfcdgphlaagreat", sum := "f7ffb136489b1441657e366ad580acd4922999b767adfe03ea92cff9c5a0e3c7", func := "postillion/postillionlaw17.PartTicks", spec := "partTicks", inPlace := ["slices.overlaps[postillion/api.End]", "slices.overlaps[postillion/api.Branch]", "slices.overlaps[postillion/api.Pend]", "slices.overlaps[postillion/bag.some[string]]"], unfollowed := true, recurses := true, apart := false }
def PartTicksSaid : Prop := partTicksRow.holds Tryz.pinned (OpenSpec.ofChange partTicksSpec)

/-- ITS FALSE NEIGHBOUR: 'it returns false'. Refute it at one input. -/
def partTicksWrong : ChangeSpec := { name := "partTicks", fn := fun _ => fun
  | [d1, d2, d3] => { results := [.lit (.bool false)], args := [d1, d2, d3] }
  | _ => none }
def PartTicksWrongFalsely : Prop := partTicksRow.holds Tryz.pinned (OpenSpec.ofChange partTicksWrong)

/-- 'postillionlaw17.PartNone': WHATEVER THE INPUT: true; the input reads as it did. -/
def partNoneSpec : ChangeSpec := { name := "partNone", fn := fun _ => fun
  | [] => { results := [.lit (.bool true)], args := [] }
  | _ => none }
def partNoneRow : OpenClaim := { program := "ytkdpmdfcdgphlaagreat", sum := "f7ffb136489b1441657e366ad580acd4922999b767adfe03ea92cff9c5a0e3c7", func := "postillion/postillionlaw17.PartNone", spec := "partNone", inPlace := ["slices.overlaps[postillion/api.End]", "slices.overlaps[postillion/api.Branch]", "slices.overlaps[postillion/api.Pend]", "slices.overlaps[postillion/bag.some[string]]"], unfollowed := true, recurses := true, apart := false }
def PartNoneSaid : Prop := partNoneRow.holds Tryz.pinned (OpenSpec.ofChange partNoneSpec)

/-- ITS FALSE NEIGHBOUR: 'it returns false'. Refute it at one input. -/
def partNoneWrong : ChangeSpec := { name := "partNone", fn := fun _ => fun
  | [] => { results := [.lit (.bool false)], args := [] }
  | _ => none }
def PartNoneWrongFalsely : Prop := partNoneRow.holds Tryz.pinned (OpenSpec.ofChange partNoneWrong)

/- THE SECOND FORM. 'bulk': how many values and letters a reading holds, each counted each time it is reached (what is shared counts as often as it is met; a slice's spare places count too). A statement '..UptoSaid' is the law's where the arguments, and the package variables that the reading takes, are together of bulk at most 1048576: NARROWER than '..Said'. Prove '..Said' where nothing that the law and all that it calls make is longer than what came in: it says more and counts as full. Else prove '..UptoSaid'. A law counts once. -/
mutual
def uptoBulk {H : Type} : DataW H → Nat
  | .lit (.string bytes) => bytes.length + 1
  | .lit _ => 1
  | .nil => 1
  | .ptr d => uptoBulk d + 1
  | .slice elems spare => uptoBulkAll elems + uptoBulkAll spare + 1
  | .agg parts => uptoBulkAll parts + 1
  | .iface _ d => uptoBulk d + 1
  | .map entries => uptoBulkEntries entries + 1
  | .held _ => 1
def uptoBulkAll {H : Type} : List (DataW H) → Nat
  | [] => 0
  | d :: r => uptoBulk d + uptoBulkAll r
def uptoBulkEntries {H : Type} : List (Lit × DataW H) → Nat
  | [] => 0
  | x :: r => uptoBulkEntry x + uptoBulkEntries r
def uptoBulkEntry {H : Type} : Lit × DataW H → Nat
  | (.string bytes, d) => bytes.length + uptoBulk d + 1
  | (_, d) => uptoBulk d + 1
 end
def uptoSmall : (H : Type) → List (DataW H) → Bool := fun _ ds => decide (uptoBulkAll ds ≤ 1048576)
def OpenSpec.upto (s : _root_.Go.ChangeSpec) : _root_.Go.OpenSpec := { _root_.Go.OpenSpec.ofChange s with cond := some uptoSmall }

/-- 'postillionlaw17.PartNever', WHERE WHAT IT READS IS OF BULK AT MOST 1048576: true; the input reads as it did. -/
def partNeverUptoRow : OpenClaim := { program := "ytkdpmdfcdgphlaagreat", sum := "f7ffb136489b1441657e366ad580acd4922999b767adfe03ea92cff9c5a0e3c7", func := "postillion/postillionlaw17.PartNever", spec := "partNever", inPlace := ["slices.overlaps[postillion/api.End]", "slices.overlaps[postillion/api.Branch]", "slices.overlaps[postillion/api.Pend]", "slices.overlaps[postillion/bag.some[string]]"], unfollowed := true, recurses := true, apart := false, narrowed := true }
def PartNeverUptoSaid : Prop := partNeverUptoRow.holds Tryz.pinned (OpenSpec.upto partNeverSpec)

/-- 'postillionlaw17.PartPrepare', WHERE WHAT IT READS IS OF BULK AT MOST 1048576: true; the input reads as it did. -/
def partPrepareUptoRow : OpenClaim := { program := "ytkdpmdfcdgphlaagreat", sum := "f7ffb136489b1441657e366ad580acd4922999b767adfe03ea92cff9c5a0e3c7", func := "postillion/postillionlaw17.PartPrepare", spec := "partPrepare", inPlace := ["slices.overlaps[postillion/api.End]", "slices.overlaps[postillion/api.Branch]", "slices.overlaps[postillion/api.Pend]", "slices.overlaps[postillion/bag.some[string]]"], unfollowed := true, recurses := true, apart := false, narrowed := true }
def PartPrepareUptoSaid : Prop := partPrepareUptoRow.holds Tryz.pinned (OpenSpec.upto partPrepareSpec)

/-- 'postillionlaw17.PartSay', WHERE WHAT IT READS IS OF BULK AT MOST 1048576: true; the input reads as it did. -/
def partSayUptoRow : OpenClaim := { program := "ytkdpmdfcdgphlaagreat", sum := "f7ffb136489b1441657e366ad580acd4922999b767adfe03ea92cff9c5a0e3c7", func := "postillion/postillionlaw17.PartSay", spec := "partSay", inPlace := ["slices.overlaps[postillion/api.End]", "slices.overlaps[postillion/api.Branch]", "slices.overlaps[postillion/api.Pend]", "slices.overlaps[postillion/bag.some[string]]"], unfollowed := true, recurses := true, apart := false, narrowed := true }
def PartSayUptoSaid : Prop := partSayUptoRow.holds Tryz.pinned (OpenSpec.upto partSaySpec)

/-- 'postillionlaw17.PartRoom', WHERE WHAT IT READS IS OF BULK AT MOST 1048576: true; the input reads as it did. -/
def partRoomUptoRow : OpenClaim := { program := "ytkdpmdfcdgphlaagreat", sum := "f7ffb136489b1441657e366ad580acd4922999b767adfe03ea92cff9c5a0e3c7", func := "postillion/postillionlaw17.PartRoom", spec := "partRoom", inPlace := ["slices.overlaps[postillion/api.End]", "slices.overlaps[postillion/api.Branch]", "slices.overlaps[postillion/api.Pend]", "slices.overlaps[postillion/bag.some[string]]"], unfollowed := true, recurses := true, apart := false, narrowed := true }
def PartRoomUptoSaid : Prop := partRoomUptoRow.holds Tryz.pinned (OpenSpec.upto partRoomSpec)

/-- 'postillionlaw17.CoordVotes', WHERE WHAT IT READS IS OF BULK AT MOST 1048576: true; the input reads as it did. -/
def coordVotesUptoRow : OpenClaim := { program := "ytkdpmdfcdgphlaagreat", sum := "f7ffb136489b1441657e366ad580acd4922999b767adfe03ea92cff9c5a0e3c7", func := "postillion/postillionlaw17.CoordVotes", spec := "coordVotes", inPlace := ["slices.overlaps[postillion/api.End]", "slices.overlaps[postillion/api.Branch]", "slices.overlaps[postillion/api.Pend]", "slices.overlaps[postillion/bag.some[string]]"], unfollowed := true, recurses := true, apart := false, narrowed := true }
def CoordVotesUptoSaid : Prop := coordVotesUptoRow.holds Tryz.pinned (OpenSpec.upto coordVotesSpec)

/-- 'postillionlaw17.CoordAsk', WHERE WHAT IT READS IS OF BULK AT MOST 1048576: true; the input reads as it did. -/
def coordAskUptoRow : OpenClaim := { program := "ytkdpmdfcdgphlaagreat", sum := "f7ffb136489b1441657e366ad580acd4922999b767adfe03ea92cff9c5a0e3c7", func := "postillion/postillionlaw17.CoordAsk", spec := "coordAsk", inPlace := ["slices.overlaps[postillion/api.End]", "slices.overlaps[postillion/api.Branch]", "slices.overlaps[postillion/api.Pend]", "slices.overlaps[postillion/bag.some[string]]"], unfollowed := true, recurses := true, apart := false, narrowed := true }
def CoordAskUptoSaid : Prop := coordAskUptoRow.holds Tryz.pinned (OpenSpec.upto coordAskSpec)

/-- 'postillionlaw17.CoordRise', WHERE WHAT IT READS IS OF BULK AT MOST 1048576: true; the input reads as it did. -/
def coordRiseUptoRow : OpenClaim := { program := "ytkdpmdfcdgphlaagreat", sum := "f7ffb136489b1441657e366ad580acd4922999b767adfe03ea92cff9c5a0e3c7", func := "postillion/postillionlaw17.CoordRise", spec := "coordRise", inPlace := ["slices.overlaps[postillion/api.End]", "slices.overlaps[postillion/api.Branch]", "slices.overlaps[postillion/api.Pend]", "slices.overlaps[postillion/bag.some[string]]"], unfollowed := true, recurses := true, apart := false, narrowed := true }
def CoordRiseUptoSaid : Prop := coordRiseUptoRow.holds Tryz.pinned (OpenSpec.upto coordRiseSpec)

/-- 'postillionlaw17.PartAll', WHERE WHAT IT READS IS OF BULK AT MOST 1048576: true; the input reads as it did. -/
def partAllUptoRow : OpenClaim := { program := "ytkdpmdfcdgphlaagreat", sum := "f7ffb136489b1441657e366ad580acd4922999b767adfe03ea92cff9c5a0e3c7", func := "postillion/postillionlaw17.PartAll", spec := "partAll", inPlace := ["slices.overlaps[postillion/api.End]", "slices.overlaps[postillion/api.Branch]", "slices.overlaps[postillion/api.Pend]", "slices.overlaps[postillion/bag.some[string]]"], unfollowed := true, recurses := true, apart := false, narrowed := true }
def PartAllUptoSaid : Prop := partAllUptoRow.holds Tryz.pinned (OpenSpec.upto partAllSpec)

/-- 'postillionlaw17.CoordWaits', WHERE WHAT IT READS IS OF BULK AT MOST 1048576: true; the input reads as it did. -/
def coordWaitsUptoRow : OpenClaim := { program := "ytkdpmdfcdgphlaagreat", sum := "f7ffb136489b1441657e366ad580acd4922999b767adfe03ea92cff9c5a0e3c7", func := "postillion/postillionlaw17.CoordWaits", spec := "coordWaits", inPlace := ["slices.overlaps[postillion/api.End]", "slices.overlaps[postillion/api.Branch]", "slices.overlaps[postillion/api.Pend]", "slices.overlaps[postillion/bag.some[string]]"], unfollowed := true, recurses := true, apart := false, narrowed := true }
def CoordWaitsUptoSaid : Prop := coordWaitsUptoRow.holds Tryz.pinned (OpenSpec.upto coordWaitsSpec)

/-- 'postillionlaw17.CoordTold', WHERE WHAT IT READS IS OF BULK AT MOST 1048576: true; the input reads as it did. -/
def coordToldUptoRow : OpenClaim := { program := "ytkdpmdfcdgphlaagreat", sum := "f7ffb136489b1441657e366ad580acd4922999b767adfe03ea92cff9c5a0e3c7", func := "postillion/postillionlaw17.CoordTold", spec := "coordTold", inPlace := ["slices.overlaps[postillion/api.End]", "slices.overlaps[postillion/api.Branch]", "slices.overlaps[postillion/api.Pend]", "slices.overlaps[postillion/bag.some[string]]"], unfollowed := true, recurses := true, apart := false, narrowed := true }
def CoordToldUptoSaid : Prop := coordToldUptoRow.holds Tryz.pinned (OpenSpec.upto coordToldSpec)

/-- 'postillionlaw17.PartTicks', WHERE WHAT IT READS IS OF BULK AT MOST 1048576: true; the input reads as it did. -/
def partTicksUptoRow : OpenClaim := { program := "ytkdpmdfcdgphlaagreat", sum := "f7ffb136489b1441657e366ad580acd4922999b767adfe03ea92cff9c5a0e3c7", func := "postillion/postillionlaw17.PartTicks", spec := "partTicks", inPlace := ["slices.overlaps[postillion/api.End]", "slices.overlaps[postillion/api.Branch]", "slices.overlaps[postillion/api.Pend]", "slices.overlaps[postillion/bag.some[string]]"], unfollowed := true, recurses := true, apart := false, narrowed := true }
def PartTicksUptoSaid : Prop := partTicksUptoRow.holds Tryz.pinned (OpenSpec.upto partTicksSpec)

/-- 'postillionlaw17.PartNone', WHERE WHAT IT READS IS OF BULK AT MOST 1048576: true; the input reads as it did. -/
def partNoneUptoRow : OpenClaim := { program := "ytkdpmdfcdgphlaagreat", sum := "f7ffb136489b1441657e366ad580acd4922999b767adfe03ea92cff9c5a0e3c7", func := "postillion/postillionlaw17.PartNone", spec := "partNone", inPlace := ["slices.overlaps[postillion/api.End]", "slices.overlaps[postillion/api.Branch]", "slices.overlaps[postillion/api.Pend]", "slices.overlaps[postillion/bag.some[string]]"], unfollowed := true, recurses := true, apart := false, narrowed := true }
def PartNoneUptoSaid : Prop := partNoneUptoRow.holds Tryz.pinned (OpenSpec.upto partNoneSpec)

end Rows
end Go.Proofs.YtkdpmdfcdgphlaaGreat

/-
  No cell of these rows narrows 'for every input' (looked for: loops, veiled, ifaces, maps, wideKeys, modest, calm, conditions, laid).
  DERIVED. THE GIVEN ROWS OF THIS SEAT. 12 by the template 'for every input the law returns true; each argument reads behind the call as it read before'; 0 by the template 'total and deterministic' (their statements: YtcdgplkmahabiaaTotals.lean).
  GIVEN WITH THE SEED: the statements are not yours to turn. If you find one false, say at which input.
  Laid BY PROGRAM, IN A SANDBOX (cutbox-rows.mjs): the forced cells as the released guide's own fill.sh prints them over the translation 2046c5807d793dc9… (all of the seat's roots in one cut). By AI agents, Wed Nov 11 2026. No macro, syntax, notation, axiom, sorry.
-/
import Derived.Test.YtcdgplkmahabiaaChecked
import GoSem.Claim
import GoSem.ClaimJoined
import GoSem.ClaimMapViews
import Derived.JoinedTies
import Derived.KernelRfl
namespace Go.Proofs.Ytcdgplkmahabiaa
/- THE CELL 'sum', in the pinned program and in every row, IS THE sha256 OF THE DUMP (.gsa) THAT YtcdgplkmahabiaaProg.lean LOADS. Nothing in Lean hashes anything: it is a label: what it is worth is what the hold of that sum in a sandbox is worth. -/
noncomputable def Try.pinned : Pinned := { name := "ytcdgplkmahabiaa", sum := "2046c5807d793dc9de751db17b214dfa28bb0d8a2f2a43ac1c1d3ae0f93fda35", checked := Try.checked }
namespace Rows
def none {H : Type} : Left H := { results := [], args := [] }

/-- 'laws.FnExactTurnBy': WHATEVER THE INPUT: true; the input reads as it did. -/
def fnExactTurnBySpec : ChangeSpec := { name := "fnExactTurnBy", fn := fun _ => fun
  | [d1, d2, d3] => { results := [.lit (.bool true)], args := [d1, d2, d3] }
  | _ => none }
def fnExactTurnByRow : OpenClaim := { program := "ytcdgplkmahabiaa", sum := "2046c5807d793dc9de751db17b214dfa28bb0d8a2f2a43ac1c1d3ae0f93fda35", func := "loop.example/alidade/laws.FnExactTurnBy", spec := "fnExactTurnBy", recurses := true, apart := false }
def FnExactTurnBySaid : Prop := fnExactTurnByRow.holds Try.pinned (OpenSpec.ofChange fnExactTurnBySpec)

/-- ITS FALSE NEIGHBOUR: 'it returns false'. Refute it at one input. -/
def fnExactTurnByWrong : ChangeSpec := { name := "fnExactTurnBy", fn := fun _ => fun
  | [d1, d2, d3] => { results := [.lit (.bool false)], args := [d1, d2, d3] }
  | _ => none }
def FnExactTurnByWrongFalsely : Prop := fnExactTurnByRow.holds Try.pinned (OpenSpec.ofChange fnExactTurnByWrong)

/-- 'laws.FnSineBackNeg': WHATEVER THE INPUT: true; the input reads as it did. -/
def fnSineBackNegSpec : ChangeSpec := { name := "fnSineBackNeg", fn := fun _ => fun
  | [d] => { results := [.lit (.bool true)], args := [d] }
  | _ => none }
def fnSineBackNegRow : OpenClaim := { program := "ytcdgplkmahabiaa", sum := "2046c5807d793dc9de751db17b214dfa28bb0d8a2f2a43ac1c1d3ae0f93fda35", func := "loop.example/alidade/laws.FnSineBackNeg", spec := "fnSineBackNeg", unfollowed := true, recurses := true, apart := false }
def FnSineBackNegSaid : Prop := fnSineBackNegRow.holds Try.pinned (OpenSpec.ofChange fnSineBackNegSpec)

/-- ITS FALSE NEIGHBOUR: 'it returns false'. Refute it at one input. -/
def fnSineBackNegWrong : ChangeSpec := { name := "fnSineBackNeg", fn := fun _ => fun
  | [d] => { results := [.lit (.bool false)], args := [d] }
  | _ => none }
def FnSineBackNegWrongFalsely : Prop := fnSineBackNegRow.holds Try.pinned (OpenSpec.ofChange fnSineBackNegWrong)

/-- 'laws.FnSineBack': WHATEVER THE INPUT: true; the input reads as it did. -/
def fnSineBackSpec : ChangeSpec := { name := "fnSineBack", fn := fun _ => fun
  | [d] => { results := [.lit (.bool true)], args := [d] }
  | _ => none }
def fnSineBackRow : OpenClaim := { program := "ytcdgplkmahabiaa", sum := "2046c5807d793dc9de751db17b214dfa28bb0d8a2f2a43ac1c1d3ae0f93fda35", func := "loop.example/alidade/laws.FnSineBack", spec := "fnSineBack", unfollowed := true, recurses := true, apart := false }
def FnSineBackSaid : Prop := fnSineBackRow.holds Try.pinned (OpenSpec.ofChange fnSineBackSpec)

/-- ITS FALSE NEIGHBOUR: 'it returns false'. Refute it at one input. -/
def fnSineBackWrong : ChangeSpec := { name := "fnSineBack", fn := fun _ => fun
  | [d] => { results := [.lit (.bool false)], args := [d] }
  | _ => none }
def FnSineBackWrongFalsely : Prop := fnSineBackRow.holds Try.pinned (OpenSpec.ofChange fnSineBackWrong)

/-- 'laws.FnCosBack': WHATEVER THE INPUT: true; the input reads as it did. -/
def fnCosBackSpec : ChangeSpec := { name := "fnCosBack", fn := fun _ => fun
  | [d] => { results := [.lit (.bool true)], args := [d] }
  | _ => none }
def fnCosBackRow : OpenClaim := { program := "ytcdgplkmahabiaa", sum := "2046c5807d793dc9de751db17b214dfa28bb0d8a2f2a43ac1c1d3ae0f93fda35", func := "loop.example/alidade/laws.FnCosBack", spec := "fnCosBack", unfollowed := true, recurses := true, apart := false }
def FnCosBackSaid : Prop := fnCosBackRow.holds Try.pinned (OpenSpec.ofChange fnCosBackSpec)

/-- ITS FALSE NEIGHBOUR: 'it returns false'. Refute it at one input. -/
def fnCosBackWrong : ChangeSpec := { name := "fnCosBack", fn := fun _ => fun
  | [d] => { results := [.lit (.bool false)], args := [d] }
  | _ => none }
def FnCosBackWrongFalsely : Prop := fnCosBackRow.holds Try.pinned (OpenSpec.ofChange fnCosBackWrong)

/-- 'laws.FnTurnNeg': WHATEVER THE INPUT: true; the input reads as it did. -/
def fnTurnNegSpec : ChangeSpec := { name := "fnTurnNeg", fn := fun _ => fun
  | [d] => { results := [.lit (.bool true)], args := [d] }
  | _ => none }
def fnTurnNegRow : OpenClaim := { program := "ytcdgplkmahabiaa", sum := "2046c5807d793dc9de751db17b214dfa28bb0d8a2f2a43ac1c1d3ae0f93fda35", func := "loop.example/alidade/laws.FnTurnNeg", spec := "fnTurnNeg", recurses := true, apart := false }
def FnTurnNegSaid : Prop := fnTurnNegRow.holds Try.pinned (OpenSpec.ofChange fnTurnNegSpec)

/-- ITS FALSE NEIGHBOUR: 'it returns false'. Refute it at one input. -/
def fnTurnNegWrong : ChangeSpec := { name := "fnTurnNeg", fn := fun _ => fun
  | [d] => { results := [.lit (.bool false)], args := [d] }
  | _ => none }
def FnTurnNegWrongFalsely : Prop := fnTurnNegRow.holds Try.pinned (OpenSpec.ofChange fnTurnNegWrong)

/-- 'laws.FnTurnWhole': WHATEVER THE INPUT: true; the input reads as it did. -/
def fnTurnWholeSpec : ChangeSpec := { name := "fnTurnWhole", fn := fun _ => fun
  | [d] => { results := [.lit (.bool true)], args := [d] }
  | _ => none }
def fnTurnWholeRow : OpenClaim := { program := "ytcdgplkmahabiaa", sum := "2046c5807d793dc9de751db17b214dfa28bb0d8a2f2a43ac1c1d3ae0f93fda35", func := "loop.example/alidade/laws.FnTurnWhole", spec := "fnTurnWhole", recurses := true, apart := false }
def FnTurnWholeSaid : Prop := fnTurnWholeRow.holds Try.pinned (OpenSpec.ofChange fnTurnWholeSpec)

/-- ITS FALSE NEIGHBOUR: 'it returns false'. Refute it at one input. -/
def fnTurnWholeWrong : ChangeSpec := { name := "fnTurnWhole", fn := fun _ => fun
  | [d] => { results := [.lit (.bool false)], args := [d] }
  | _ => none }
def FnTurnWholeWrongFalsely : Prop := fnTurnWholeRow.holds Try.pinned (OpenSpec.ofChange fnTurnWholeWrong)

/-- 'laws.FnWayLong': WHATEVER THE INPUT: true; the input reads as it did. -/
def fnWayLongSpec : ChangeSpec := { name := "fnWayLong", fn := fun _ => fun
  | [d] => { results := [.lit (.bool true)], args := [d] }
  | _ => none }
def fnWayLongRow : OpenClaim := { program := "ytcdgplkmahabiaa", sum := "2046c5807d793dc9de751db17b214dfa28bb0d8a2f2a43ac1c1d3ae0f93fda35", func := "loop.example/alidade/laws.FnWayLong", spec := "fnWayLong", unfollowed := true, recurses := true, apart := false }
def FnWayLongSaid : Prop := fnWayLongRow.holds Try.pinned (OpenSpec.ofChange fnWayLongSpec)

/-- ITS FALSE NEIGHBOUR: 'it returns false'. Refute it at one input. -/
def fnWayLongWrong : ChangeSpec := { name := "fnWayLong", fn := fun _ => fun
  | [d] => { results := [.lit (.bool false)], args := [d] }
  | _ => none }
def FnWayLongWrongFalsely : Prop := fnWayLongRow.holds Try.pinned (OpenSpec.ofChange fnWayLongWrong)

/-- 'laws.FnWaySwap': WHATEVER THE INPUT: true; the input reads as it did. -/
def fnWaySwapSpec : ChangeSpec := { name := "fnWaySwap", fn := fun _ => fun
  | [d] => { results := [.lit (.bool true)], args := [d] }
  | _ => none }
def fnWaySwapRow : OpenClaim := { program := "ytcdgplkmahabiaa", sum := "2046c5807d793dc9de751db17b214dfa28bb0d8a2f2a43ac1c1d3ae0f93fda35", func := "loop.example/alidade/laws.FnWaySwap", spec := "fnWaySwap", unfollowed := true, recurses := true, apart := false }
def FnWaySwapSaid : Prop := fnWaySwapRow.holds Try.pinned (OpenSpec.ofChange fnWaySwapSpec)

/-- ITS FALSE NEIGHBOUR: 'it returns false'. Refute it at one input. -/
def fnWaySwapWrong : ChangeSpec := { name := "fnWaySwap", fn := fun _ => fun
  | [d] => { results := [.lit (.bool false)], args := [d] }
  | _ => none }
def FnWaySwapWrongFalsely : Prop := fnWaySwapRow.holds Try.pinned (OpenSpec.ofChange fnWaySwapWrong)

/-- 'laws.FnWayTurn': WHATEVER THE INPUT: true; the input reads as it did. -/
def fnWayTurnSpec : ChangeSpec := { name := "fnWayTurn", fn := fun _ => fun
  | [d] => { results := [.lit (.bool true)], args := [d] }
  | _ => none }
def fnWayTurnRow : OpenClaim := { program := "ytcdgplkmahabiaa", sum := "2046c5807d793dc9de751db17b214dfa28bb0d8a2f2a43ac1c1d3ae0f93fda35", func := "loop.example/alidade/laws.FnWayTurn", spec := "fnWayTurn", unfollowed := true, recurses := true, apart := false }
def FnWayTurnSaid : Prop := fnWayTurnRow.holds Try.pinned (OpenSpec.ofChange fnWayTurnSpec)

/-- ITS FALSE NEIGHBOUR: 'it returns false'. Refute it at one input. -/
def fnWayTurnWrong : ChangeSpec := { name := "fnWayTurn", fn := fun _ => fun
  | [d] => { results := [.lit (.bool false)], args := [d] }
  | _ => none }
def FnWayTurnWrongFalsely : Prop := fnWayTurnRow.holds Try.pinned (OpenSpec.ofChange fnWayTurnWrong)

/-- 'laws.FnWayWhole': WHATEVER THE INPUT: true; the input reads as it did. -/
def fnWayWholeSpec : ChangeSpec := { name := "fnWayWhole", fn := fun _ => fun
  | [d1, d2] => { results := [.lit (.bool true)], args := [d1, d2] }
  | _ => none }
def fnWayWholeRow : OpenClaim := { program := "ytcdgplkmahabiaa", sum := "2046c5807d793dc9de751db17b214dfa28bb0d8a2f2a43ac1c1d3ae0f93fda35", func := "loop.example/alidade/laws.FnWayWhole", spec := "fnWayWhole", unfollowed := true, recurses := true, apart := false }
def FnWayWholeSaid : Prop := fnWayWholeRow.holds Try.pinned (OpenSpec.ofChange fnWayWholeSpec)

/-- ITS FALSE NEIGHBOUR: 'it returns false'. Refute it at one input. -/
def fnWayWholeWrong : ChangeSpec := { name := "fnWayWhole", fn := fun _ => fun
  | [d1, d2] => { results := [.lit (.bool false)], args := [d1, d2] }
  | _ => none }
def FnWayWholeWrongFalsely : Prop := fnWayWholeRow.holds Try.pinned (OpenSpec.ofChange fnWayWholeWrong)

/-- 'laws.FnWayOf': WHATEVER THE INPUT: true; the input reads as it did. -/
def fnWayOfSpec : ChangeSpec := { name := "fnWayOf", fn := fun _ => fun
  | [d] => { results := [.lit (.bool true)], args := [d] }
  | _ => none }
def fnWayOfRow : OpenClaim := { program := "ytcdgplkmahabiaa", sum := "2046c5807d793dc9de751db17b214dfa28bb0d8a2f2a43ac1c1d3ae0f93fda35", func := "loop.example/alidade/laws.FnWayOf", spec := "fnWayOf", unfollowed := true, recurses := true, apart := false }
def FnWayOfSaid : Prop := fnWayOfRow.holds Try.pinned (OpenSpec.ofChange fnWayOfSpec)

/-- ITS FALSE NEIGHBOUR: 'it returns false'. Refute it at one input. -/
def fnWayOfWrong : ChangeSpec := { name := "fnWayOf", fn := fun _ => fun
  | [d] => { results := [.lit (.bool false)], args := [d] }
  | _ => none }
def FnWayOfWrongFalsely : Prop := fnWayOfRow.holds Try.pinned (OpenSpec.ofChange fnWayOfWrong)

/-- 'laws.FnTurnBy': WHATEVER THE INPUT: true; the input reads as it did. -/
def fnTurnBySpec : ChangeSpec := { name := "fnTurnBy", fn := fun _ => fun
  | [d] => { results := [.lit (.bool true)], args := [d] }
  | _ => none }
def fnTurnByRow : OpenClaim := { program := "ytcdgplkmahabiaa", sum := "2046c5807d793dc9de751db17b214dfa28bb0d8a2f2a43ac1c1d3ae0f93fda35", func := "loop.example/alidade/laws.FnTurnBy", spec := "fnTurnBy", recurses := true, apart := false }
def FnTurnBySaid : Prop := fnTurnByRow.holds Try.pinned (OpenSpec.ofChange fnTurnBySpec)

/-- ITS FALSE NEIGHBOUR: 'it returns false'. Refute it at one input. -/
def fnTurnByWrong : ChangeSpec := { name := "fnTurnBy", fn := fun _ => fun
  | [d] => { results := [.lit (.bool false)], args := [d] }
  | _ => none }
def FnTurnByWrongFalsely : Prop := fnTurnByRow.holds Try.pinned (OpenSpec.ofChange fnTurnByWrong)

/- THE SECOND FORM. 'bulk': how many values and letters a reading holds, each counted each time it is reached (what is shared counts as often as it is met; a slice's spare places count too). A statement '..UptoSaid' is the law's where the arguments, and the package variables that the reading takes, are together of bulk at most 1048576: NARROWER than '..Said'. Prove '..Said' where nothing that the law and all that it calls make is longer than what came in: it says more and counts as full. Else prove '..UptoSaid'. A law counts once. -/
mutual
def uptoBulk {H : Type} : DataW H → Nat
  | .lit (.string bytes) => bytes.length + 1
  | .lit _ => 1
  | .nil => 1
  | .ptr d => uptoBulk d + 1
  | .slice elems spare => uptoBulkAll elems + uptoBulkAll spare + 1
  | .agg parts => uptoBulkAll parts + 1
  | .iface _ d => uptoBulk d + 1
  | .map entries => uptoBulkEntries entries + 1
  | .held _ => 1
def uptoBulkAll {H : Type} : List (DataW H) → Nat
  | [] => 0
  | d :: r => uptoBulk d + uptoBulkAll r
def uptoBulkEntries {H : Type} : List (Lit × DataW H) → Nat
  | [] => 0
  | x :: r => uptoBulkEntry x + uptoBulkEntries r
def uptoBulkEntry {H : Type} : Lit × DataW H → Nat
  | (.string bytes, d) => bytes.length + uptoBulk d + 1
  | (_, d) => uptoBulk d + 1
 end
def uptoSmall : (H : Type) → List (DataW H) → Bool := fun _ ds => decide (uptoBulkAll ds ≤ 1048576)
def OpenSpec.upto (s : _root_.Go.ChangeSpec) : _root_.Go.OpenSpec := { _root_.Go.OpenSpec.ofChange s with cond := some uptoSmall }

/-- 'laws.FnExactTurnBy', WHERE WHAT IT READS IS OF BULK AT MOST 1048576: true; the input reads as it did. -/
def fnExactTurnByUptoRow : OpenClaim := { program := "ytcdgplkmahabiaa", sum := "2046c5807d793dc9de751db17b214dfa28bb0d8a2f2a43ac1c1d3ae0f93fda35", func := "loop.example/alidade/laws.FnExactTurnBy", spec := "fnExactTurnBy", recurses := true, apart := false, narrowed := true }
def FnExactTurnByUptoSaid : Prop := fnExactTurnByUptoRow.holds Try.pinned (OpenSpec.upto fnExactTurnBySpec)

/-- 'laws.FnSineBackNeg', WHERE WHAT IT READS IS OF BULK AT MOST 1048576: true; the input reads as it did. -/
def fnSineBackNegUptoRow : OpenClaim := { program := "ytcdgplkmahabiaa", sum := "2046c5807d793dc9de751db17b214dfa28bb0d8a2f2a43ac1c1d3ae0f93fda35", func := "loop.example/alidade/laws.FnSineBackNeg", spec := "fnSineBackNeg", unfollowed := true, recurses := true, apart := false, narrowed := true }
def FnSineBackNegUptoSaid : Prop := fnSineBackNegUptoRow.holds Try.pinned (OpenSpec.upto fnSineBackNegSpec)

/-- 'laws.FnSineBack', WHERE WHAT IT READS IS OF BULK AT MOST 1048576: true; the input reads as it did. -/
def fnSineBackUptoRow : OpenClaim := { program := "ytcdgplkmahabiaa", sum := "2046c5807d793dc9de751db17b214dfa28bb0d8a2f2a43ac1c1d3ae0f93fda35", func := "loop.example/alidade/laws.FnSineBack", spec := "fnSineBack", unfollowed := true, recurses := true, apart := false, narrowed := true }
def FnSineBackUptoSaid : Prop := fnSineBackUptoRow.holds Try.pinned (OpenSpec.upto fnSineBackSpec)

/-- 'laws.FnCosBack', WHERE WHAT IT READS IS OF BULK AT MOST 1048576: true; the input reads as it did. -/
def fnCosBackUptoRow : OpenClaim := { program := "ytcdgplkmahabiaa", sum := "2046c5807d793dc9de751db17b214dfa28bb0d8a2f2a43ac1c1d3ae0f93fda35", func := "loop.example/alidade/laws.FnCosBack", spec := "fnCosBack", unfollowed := true, recurses := true, apart := false, narrowed := true }
def FnCosBackUptoSaid : Prop := fnCosBackUptoRow.holds Try.pinned (OpenSpec.upto fnCosBackSpec)

/-- 'laws.FnTurnNeg', WHERE WHAT IT READS IS OF BULK AT MOST 1048576: true; the input reads as it did. -/
def fnTurnNegUptoRow : OpenClaim := { program := "ytcdgplkmahabiaa", sum := "2046c5807d793dc9de751db17b214dfa28bb0d8a2f2a43ac1c1d3ae0f93fda35", func := "loop.example/alidade/laws.FnTurnNeg", spec := "fnTurnNeg", recurses := true, apart := false, narrowed := true }
def FnTurnNegUptoSaid : Prop := fnTurnNegUptoRow.holds Try.pinned (OpenSpec.upto fnTurnNegSpec)

/-- 'laws.FnTurnWhole', WHERE WHAT IT READS IS OF BULK AT MOST 1048576: true; the input reads as it did. -/
def fnTurnWholeUptoRow : OpenClaim := { program := "ytcdgplkmahabiaa", sum := "2046c5807d793dc9de751db17b214dfa28bb0d8a2f2a43ac1c1d3ae0f93fda35", func := "loop.example/alidade/laws.FnTurnWhole", spec := "fnTurnWhole", recurses := true, apart := false, narrowed := true }
def FnTurnWholeUptoSaid : Prop := fnTurnWholeUptoRow.holds Try.pinned (OpenSpec.upto fnTurnWholeSpec)

/-- 'laws.FnWayLong', WHERE WHAT IT READS IS OF BULK AT MOST 1048576: true; the input reads as it did. -/
def fnWayLongUptoRow : OpenClaim := { program := "ytcdgplkmahabiaa", sum := "2046c5807d793dc9de751db17b214dfa28bb0d8a2f2a43ac1c1d3ae0f93fda35", func := "loop.example/alidade/laws.FnWayLong", spec := "fnWayLong", unfollowed := true, recurses := true, apart := false, narrowed := true }
def FnWayLongUptoSaid : Prop := fnWayLongUptoRow.holds Try.pinned (OpenSpec.upto fnWayLongSpec)

/-- 'laws.FnWaySwap', WHERE WHAT IT READS IS OF BULK AT MOST 1048576: true; the input reads as it did. -/
def fnWaySwapUptoRow : OpenClaim := { program := "ytcdgplkmahabiaa", sum := "2046c5807d793dc9de751db17b214dfa28bb0d8a2f2a43ac1c1d3ae0f93fda35", func := "loop.example/alidade/laws.FnWaySwap", spec := "fnWaySwap", unfollowed := true, recurses := true, apart := false, narrowed := true }
def FnWaySwapUptoSaid : Prop := fnWaySwapUptoRow.holds Try.pinned (OpenSpec.upto fnWaySwapSpec)

/-- 'laws.FnWayTurn', WHERE WHAT IT READS IS OF BULK AT MOST 1048576: true; the input reads as it did. -/
def fnWayTurnUptoRow : OpenClaim := { program := "ytcdgplkmahabiaa", sum := "2046c5807d793dc9de751db17b214dfa28bb0d8a2f2a43ac1c1d3ae0f93fda35", func := "loop.example/alidade/laws.FnWayTurn", spec := "fnWayTurn", unfollowed := true, recurses := true, apart := false, narrowed := true }
def FnWayTurnUptoSaid : Prop := fnWayTurnUptoRow.holds Try.pinned (OpenSpec.upto fnWayTurnSpec)

/-- 'laws.FnWayWhole', WHERE WHAT IT READS IS OF BULK AT MOST 1048576: true; the input reads as it did. -/
def fnWayWholeUptoRow : OpenClaim := { program := "ytcdgplkmahabiaa", sum := "2046c5807d793dc9de751db17b214dfa28bb0d8a2f2a43ac1c1d3ae0f93fda35", func := "loop.example/alidade/laws.FnWayWhole", spec := "fnWayWhole", unfollowed := true, recurses := true, apart := false, narrowed := true }
def FnWayWholeUptoSaid : Prop := fnWayWholeUptoRow.holds Try.pinned (OpenSpec.upto fnWayWholeSpec)

/-- 'laws.FnWayOf', WHERE WHAT IT READS IS OF BULK AT MOST 1048576: true; the input reads as it did. -/
def fnWayOfUptoRow : OpenClaim := { program := "ytcdgplkmahabiaa", sum := "2046c5807d793dc9de751db17b214dfa28bb0d8a2f2a43ac1c1d3ae0f93fda35", func := "loop.example/alidade/laws.FnWayOf", spec := "fnWayOf", unfollowed := true, recurses := true, apart := false, narrowed := true }
def FnWayOfUptoSaid : Prop := fnWayOfUptoRow.holds Try.pinned (OpenSpec.upto fnWayOfSpec)

/-- 'laws.FnTurnBy', WHERE WHAT IT READS IS OF BULK AT MOST 1048576: true; the input reads as it did. -/
def fnTurnByUptoRow : OpenClaim := { program := "ytcdgplkmahabiaa", sum := "2046c5807d793dc9de751db17b214dfa28bb0d8a2f2a43ac1c1d3ae0f93fda35", func := "loop.example/alidade/laws.FnTurnBy", spec := "fnTurnBy", recurses := true, apart := false, narrowed := true }
def FnTurnByUptoSaid : Prop := fnTurnByUptoRow.holds Try.pinned (OpenSpec.upto fnTurnBySpec)

end Rows
end Go.Proofs.Ytcdgplkmahabiaa

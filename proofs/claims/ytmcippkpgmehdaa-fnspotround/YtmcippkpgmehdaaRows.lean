/-
  No cell of these rows narrows 'for every input' (looked for: loops, veiled, ifaces, maps, wideKeys, modest, calm, conditions, laid).
  DERIVED. THE GIVEN ROWS OF THIS SEAT. 14 by the template 'for every input the law returns true; each argument reads behind the call as it read before'; 0 by the template 'total and deterministic' (their statements: YtmcippkpgmehdaaTotals.lean).
  GIVEN WITH THE SEED: the statements are not yours to turn. If you find one false, say at which input.
  Laid BY PROGRAM, IN A SANDBOX (cutbox-rows.mjs): the forced cells as the released guide's own fill.sh prints them over the translation eb2e3caccb2f9efc… (all of the seat's roots in one cut). By AI agents, Wed Nov 11 2026. No macro, syntax, notation, axiom, sorry.
-/
import Derived.Test.YtmcippkpgmehdaaChecked
import GoSem.Claim
import GoSem.ClaimJoined
import GoSem.ClaimMapViews
import Derived.JoinedTies
import Derived.KernelRfl
namespace Go.Proofs.Ytmcippkpgmehdaa
/- THE CELL 'sum', in the pinned program and in every row, IS THE sha256 OF THE DUMP (.gsa) THAT YtmcippkpgmehdaaProg.lean LOADS. Nothing in Lean hashes anything: it is a label: what it is worth is what the hold of that sum in a sandbox is worth. -/
noncomputable def Try.pinned : Pinned := { name := "ytmcippkpgmehdaa", sum := "eb2e3caccb2f9efc7b6a76bc602c2d420d3634bf63a1240f0489de0a418cc227", checked := Try.checked }
namespace Rows
def none {H : Type} : Left H := { results := [], args := [] }

/-- 'laws.FnSpotFar': WHATEVER THE INPUT: true; the input reads as it did. -/
def fnSpotFarSpec : ChangeSpec := { name := "fnSpotFar", fn := fun _ => fun
  | [d] => { results := [.lit (.bool true)], args := [d] }
  | _ => none }
def fnSpotFarRow : OpenClaim := { program := "ytmcippkpgmehdaa", sum := "eb2e3caccb2f9efc7b6a76bc602c2d420d3634bf63a1240f0489de0a418cc227", func := "loop.example/alidade/laws.FnSpotFar", spec := "fnSpotFar", unfollowed := true, recurses := true, apart := false }
def FnSpotFarSaid : Prop := fnSpotFarRow.holds Try.pinned (OpenSpec.ofChange fnSpotFarSpec)

/-- ITS FALSE NEIGHBOUR: 'it returns false'. Refute it at one input. -/
def fnSpotFarWrong : ChangeSpec := { name := "fnSpotFar", fn := fun _ => fun
  | [d] => { results := [.lit (.bool false)], args := [d] }
  | _ => none }
def FnSpotFarWrongFalsely : Prop := fnSpotFarRow.holds Try.pinned (OpenSpec.ofChange fnSpotFarWrong)

/-- 'laws.FnSpotSame': WHATEVER THE INPUT: true; the input reads as it did. -/
def fnSpotSameSpec : ChangeSpec := { name := "fnSpotSame", fn := fun _ => fun
  | [d] => { results := [.lit (.bool true)], args := [d] }
  | _ => none }
def fnSpotSameRow : OpenClaim := { program := "ytmcippkpgmehdaa", sum := "eb2e3caccb2f9efc7b6a76bc602c2d420d3634bf63a1240f0489de0a418cc227", func := "loop.example/alidade/laws.FnSpotSame", spec := "fnSpotSame", unfollowed := true, recurses := true, apart := false }
def FnSpotSameSaid : Prop := fnSpotSameRow.holds Try.pinned (OpenSpec.ofChange fnSpotSameSpec)

/-- ITS FALSE NEIGHBOUR: 'it returns false'. Refute it at one input. -/
def fnSpotSameWrong : ChangeSpec := { name := "fnSpotSame", fn := fun _ => fun
  | [d] => { results := [.lit (.bool false)], args := [d] }
  | _ => none }
def FnSpotSameWrongFalsely : Prop := fnSpotSameRow.holds Try.pinned (OpenSpec.ofChange fnSpotSameWrong)

/-- 'laws.FnExactSpotNear': WHATEVER THE INPUT: true; the input reads as it did. -/
def fnExactSpotNearSpec : ChangeSpec := { name := "fnExactSpotNear", fn := fun _ => fun
  | [d1, d2, d3] => { results := [.lit (.bool true)], args := [d1, d2, d3] }
  | _ => none }
def fnExactSpotNearRow : OpenClaim := { program := "ytmcippkpgmehdaa", sum := "eb2e3caccb2f9efc7b6a76bc602c2d420d3634bf63a1240f0489de0a418cc227", func := "loop.example/alidade/laws.FnExactSpotNear", spec := "fnExactSpotNear", recurses := true, apart := false }
def FnExactSpotNearSaid : Prop := fnExactSpotNearRow.holds Try.pinned (OpenSpec.ofChange fnExactSpotNearSpec)

/-- ITS FALSE NEIGHBOUR: 'it returns false'. Refute it at one input. -/
def fnExactSpotNearWrong : ChangeSpec := { name := "fnExactSpotNear", fn := fun _ => fun
  | [d1, d2, d3] => { results := [.lit (.bool false)], args := [d1, d2, d3] }
  | _ => none }
def FnExactSpotNearWrongFalsely : Prop := fnExactSpotNearRow.holds Try.pinned (OpenSpec.ofChange fnExactSpotNearWrong)

/-- 'laws.FnSpotSquare': WHATEVER THE INPUT: true; the input reads as it did. -/
def fnSpotSquareSpec : ChangeSpec := { name := "fnSpotSquare", fn := fun _ => fun
  | [d] => { results := [.lit (.bool true)], args := [d] }
  | _ => none }
def fnSpotSquareRow : OpenClaim := { program := "ytmcippkpgmehdaa", sum := "eb2e3caccb2f9efc7b6a76bc602c2d420d3634bf63a1240f0489de0a418cc227", func := "loop.example/alidade/laws.FnSpotSquare", spec := "fnSpotSquare", recurses := true, apart := false }
def FnSpotSquareSaid : Prop := fnSpotSquareRow.holds Try.pinned (OpenSpec.ofChange fnSpotSquareSpec)

/-- ITS FALSE NEIGHBOUR: 'it returns false'. Refute it at one input. -/
def fnSpotSquareWrong : ChangeSpec := { name := "fnSpotSquare", fn := fun _ => fun
  | [d] => { results := [.lit (.bool false)], args := [d] }
  | _ => none }
def FnSpotSquareWrongFalsely : Prop := fnSpotSquareRow.holds Try.pinned (OpenSpec.ofChange fnSpotSquareWrong)

/-- 'laws.FnSpotSquareFar': WHATEVER THE INPUT: true; the input reads as it did. -/
def fnSpotSquareFarSpec : ChangeSpec := { name := "fnSpotSquareFar", fn := fun _ => fun
  | [d] => { results := [.lit (.bool true)], args := [d] }
  | _ => none }
def fnSpotSquareFarRow : OpenClaim := { program := "ytmcippkpgmehdaa", sum := "eb2e3caccb2f9efc7b6a76bc602c2d420d3634bf63a1240f0489de0a418cc227", func := "loop.example/alidade/laws.FnSpotSquareFar", spec := "fnSpotSquareFar", recurses := true, apart := false }
def FnSpotSquareFarSaid : Prop := fnSpotSquareFarRow.holds Try.pinned (OpenSpec.ofChange fnSpotSquareFarSpec)

/-- ITS FALSE NEIGHBOUR: 'it returns false'. Refute it at one input. -/
def fnSpotSquareFarWrong : ChangeSpec := { name := "fnSpotSquareFar", fn := fun _ => fun
  | [d] => { results := [.lit (.bool false)], args := [d] }
  | _ => none }
def FnSpotSquareFarWrongFalsely : Prop := fnSpotSquareFarRow.holds Try.pinned (OpenSpec.ofChange fnSpotSquareFarWrong)

/-- 'laws.FnSpotTurn': WHATEVER THE INPUT: true; the input reads as it did. -/
def fnSpotTurnSpec : ChangeSpec := { name := "fnSpotTurn", fn := fun _ => fun
  | [d1, d2] => { results := [.lit (.bool true)], args := [d1, d2] }
  | _ => none }
def fnSpotTurnRow : OpenClaim := { program := "ytmcippkpgmehdaa", sum := "eb2e3caccb2f9efc7b6a76bc602c2d420d3634bf63a1240f0489de0a418cc227", func := "loop.example/alidade/laws.FnSpotTurn", spec := "fnSpotTurn", recurses := true, apart := false }
def FnSpotTurnSaid : Prop := fnSpotTurnRow.holds Try.pinned (OpenSpec.ofChange fnSpotTurnSpec)

/-- ITS FALSE NEIGHBOUR: 'it returns false'. Refute it at one input. -/
def fnSpotTurnWrong : ChangeSpec := { name := "fnSpotTurn", fn := fun _ => fun
  | [d1, d2] => { results := [.lit (.bool false)], args := [d1, d2] }
  | _ => none }
def FnSpotTurnWrongFalsely : Prop := fnSpotTurnRow.holds Try.pinned (OpenSpec.ofChange fnSpotTurnWrong)

/-- 'laws.FnSpotNear': WHATEVER THE INPUT: true; the input reads as it did. -/
def fnSpotNearSpec : ChangeSpec := { name := "fnSpotNear", fn := fun _ => fun
  | [d] => { results := [.lit (.bool true)], args := [d] }
  | _ => none }
def fnSpotNearRow : OpenClaim := { program := "ytmcippkpgmehdaa", sum := "eb2e3caccb2f9efc7b6a76bc602c2d420d3634bf63a1240f0489de0a418cc227", func := "loop.example/alidade/laws.FnSpotNear", spec := "fnSpotNear", unfollowed := true, recurses := true, apart := false }
def FnSpotNearSaid : Prop := fnSpotNearRow.holds Try.pinned (OpenSpec.ofChange fnSpotNearSpec)

/-- ITS FALSE NEIGHBOUR: 'it returns false'. Refute it at one input. -/
def fnSpotNearWrong : ChangeSpec := { name := "fnSpotNear", fn := fun _ => fun
  | [d] => { results := [.lit (.bool false)], args := [d] }
  | _ => none }
def FnSpotNearWrongFalsely : Prop := fnSpotNearRow.holds Try.pinned (OpenSpec.ofChange fnSpotNearWrong)

/-- 'laws.FnSpotDist': WHATEVER THE INPUT: true; the input reads as it did. -/
def fnSpotDistSpec : ChangeSpec := { name := "fnSpotDist", fn := fun _ => fun
  | [d] => { results := [.lit (.bool true)], args := [d] }
  | _ => none }
def fnSpotDistRow : OpenClaim := { program := "ytmcippkpgmehdaa", sum := "eb2e3caccb2f9efc7b6a76bc602c2d420d3634bf63a1240f0489de0a418cc227", func := "loop.example/alidade/laws.FnSpotDist", spec := "fnSpotDist", unfollowed := true, recurses := true, apart := false }
def FnSpotDistSaid : Prop := fnSpotDistRow.holds Try.pinned (OpenSpec.ofChange fnSpotDistSpec)

/-- ITS FALSE NEIGHBOUR: 'it returns false'. Refute it at one input. -/
def fnSpotDistWrong : ChangeSpec := { name := "fnSpotDist", fn := fun _ => fun
  | [d] => { results := [.lit (.bool false)], args := [d] }
  | _ => none }
def FnSpotDistWrongFalsely : Prop := fnSpotDistRow.holds Try.pinned (OpenSpec.ofChange fnSpotDistWrong)

/-- 'laws.FnSpotDistThree': WHATEVER THE INPUT: true; the input reads as it did. -/
def fnSpotDistThreeSpec : ChangeSpec := { name := "fnSpotDistThree", fn := fun _ => fun
  | [d1, d2] => { results := [.lit (.bool true)], args := [d1, d2] }
  | _ => none }
def fnSpotDistThreeRow : OpenClaim := { program := "ytmcippkpgmehdaa", sum := "eb2e3caccb2f9efc7b6a76bc602c2d420d3634bf63a1240f0489de0a418cc227", func := "loop.example/alidade/laws.FnSpotDistThree", spec := "fnSpotDistThree", unfollowed := true, recurses := true, apart := false }
def FnSpotDistThreeSaid : Prop := fnSpotDistThreeRow.holds Try.pinned (OpenSpec.ofChange fnSpotDistThreeSpec)

/-- ITS FALSE NEIGHBOUR: 'it returns false'. Refute it at one input. -/
def fnSpotDistThreeWrong : ChangeSpec := { name := "fnSpotDistThree", fn := fun _ => fun
  | [d1, d2] => { results := [.lit (.bool false)], args := [d1, d2] }
  | _ => none }
def FnSpotDistThreeWrongFalsely : Prop := fnSpotDistThreeRow.holds Try.pinned (OpenSpec.ofChange fnSpotDistThreeWrong)

/-- 'laws.FnSpotDistUp': WHATEVER THE INPUT: true; the input reads as it did. -/
def fnSpotDistUpSpec : ChangeSpec := { name := "fnSpotDistUp", fn := fun _ => fun
  | [d] => { results := [.lit (.bool true)], args := [d] }
  | _ => none }
def fnSpotDistUpRow : OpenClaim := { program := "ytmcippkpgmehdaa", sum := "eb2e3caccb2f9efc7b6a76bc602c2d420d3634bf63a1240f0489de0a418cc227", func := "loop.example/alidade/laws.FnSpotDistUp", spec := "fnSpotDistUp", unfollowed := true, recurses := true, apart := false }
def FnSpotDistUpSaid : Prop := fnSpotDistUpRow.holds Try.pinned (OpenSpec.ofChange fnSpotDistUpSpec)

/-- ITS FALSE NEIGHBOUR: 'it returns false'. Refute it at one input. -/
def fnSpotDistUpWrong : ChangeSpec := { name := "fnSpotDistUp", fn := fun _ => fun
  | [d] => { results := [.lit (.bool false)], args := [d] }
  | _ => none }
def FnSpotDistUpWrongFalsely : Prop := fnSpotDistUpRow.holds Try.pinned (OpenSpec.ofChange fnSpotDistUpWrong)

/-- 'laws.FnSpotDistFar': WHATEVER THE INPUT: true; the input reads as it did. -/
def fnSpotDistFarSpec : ChangeSpec := { name := "fnSpotDistFar", fn := fun _ => fun
  | [d] => { results := [.lit (.bool true)], args := [d] }
  | _ => none }
def fnSpotDistFarRow : OpenClaim := { program := "ytmcippkpgmehdaa", sum := "eb2e3caccb2f9efc7b6a76bc602c2d420d3634bf63a1240f0489de0a418cc227", func := "loop.example/alidade/laws.FnSpotDistFar", spec := "fnSpotDistFar", unfollowed := true, recurses := true, apart := false }
def FnSpotDistFarSaid : Prop := fnSpotDistFarRow.holds Try.pinned (OpenSpec.ofChange fnSpotDistFarSpec)

/-- ITS FALSE NEIGHBOUR: 'it returns false'. Refute it at one input. -/
def fnSpotDistFarWrong : ChangeSpec := { name := "fnSpotDistFar", fn := fun _ => fun
  | [d] => { results := [.lit (.bool false)], args := [d] }
  | _ => none }
def FnSpotDistFarWrongFalsely : Prop := fnSpotDistFarRow.holds Try.pinned (OpenSpec.ofChange fnSpotDistFarWrong)

/-- 'laws.FnExactSpotRound': WHATEVER THE INPUT: true; the input reads as it did. -/
def fnExactSpotRoundSpec : ChangeSpec := { name := "fnExactSpotRound", fn := fun _ => fun
  | [d1, d2, d3, d4] => { results := [.lit (.bool true)], args := [d1, d2, d3, d4] }
  | _ => none }
def fnExactSpotRoundRow : OpenClaim := { program := "ytmcippkpgmehdaa", sum := "eb2e3caccb2f9efc7b6a76bc602c2d420d3634bf63a1240f0489de0a418cc227", func := "loop.example/alidade/laws.FnExactSpotRound", spec := "fnExactSpotRound", unfollowed := true, recurses := true, apart := false }
def FnExactSpotRoundSaid : Prop := fnExactSpotRoundRow.holds Try.pinned (OpenSpec.ofChange fnExactSpotRoundSpec)

/-- ITS FALSE NEIGHBOUR: 'it returns false'. Refute it at one input. -/
def fnExactSpotRoundWrong : ChangeSpec := { name := "fnExactSpotRound", fn := fun _ => fun
  | [d1, d2, d3, d4] => { results := [.lit (.bool false)], args := [d1, d2, d3, d4] }
  | _ => none }
def FnExactSpotRoundWrongFalsely : Prop := fnExactSpotRoundRow.holds Try.pinned (OpenSpec.ofChange fnExactSpotRoundWrong)

/-- 'laws.FnSpotDistAround': WHATEVER THE INPUT: true; the input reads as it did. -/
def fnSpotDistAroundSpec : ChangeSpec := { name := "fnSpotDistAround", fn := fun _ => fun
  | [d] => { results := [.lit (.bool true)], args := [d] }
  | _ => none }
def fnSpotDistAroundRow : OpenClaim := { program := "ytmcippkpgmehdaa", sum := "eb2e3caccb2f9efc7b6a76bc602c2d420d3634bf63a1240f0489de0a418cc227", func := "loop.example/alidade/laws.FnSpotDistAround", spec := "fnSpotDistAround", unfollowed := true, recurses := true, apart := false }
def FnSpotDistAroundSaid : Prop := fnSpotDistAroundRow.holds Try.pinned (OpenSpec.ofChange fnSpotDistAroundSpec)

/-- ITS FALSE NEIGHBOUR: 'it returns false'. Refute it at one input. -/
def fnSpotDistAroundWrong : ChangeSpec := { name := "fnSpotDistAround", fn := fun _ => fun
  | [d] => { results := [.lit (.bool false)], args := [d] }
  | _ => none }
def FnSpotDistAroundWrongFalsely : Prop := fnSpotDistAroundRow.holds Try.pinned (OpenSpec.ofChange fnSpotDistAroundWrong)

/-- 'laws.FnSpotRound': WHATEVER THE INPUT: true; the input reads as it did. -/
def fnSpotRoundSpec : ChangeSpec := { name := "fnSpotRound", fn := fun _ => fun
  | [d] => { results := [.lit (.bool true)], args := [d] }
  | _ => none }
def fnSpotRoundRow : OpenClaim := { program := "ytmcippkpgmehdaa", sum := "eb2e3caccb2f9efc7b6a76bc602c2d420d3634bf63a1240f0489de0a418cc227", func := "loop.example/alidade/laws.FnSpotRound", spec := "fnSpotRound", unfollowed := true, recurses := true, apart := false }
def FnSpotRoundSaid : Prop := fnSpotRoundRow.holds Try.pinned (OpenSpec.ofChange fnSpotRoundSpec)

/-- ITS FALSE NEIGHBOUR: 'it returns false'. Refute it at one input. -/
def fnSpotRoundWrong : ChangeSpec := { name := "fnSpotRound", fn := fun _ => fun
  | [d] => { results := [.lit (.bool false)], args := [d] }
  | _ => none }
def FnSpotRoundWrongFalsely : Prop := fnSpotRoundRow.holds Try.pinned (OpenSpec.ofChange fnSpotRoundWrong)

/- THE SECOND FORM. 'bulk': how many values and letters a reading holds, each counted each time it is reached (what is shared counts as often as it is met; a slice's spare places count too). A statement '..UptoSaid' is the law's where the arguments, and the package variables that the reading takes, are together of bulk at most 1048576: NARROWER than '..Said'. Prove '..Said' where nothing that the law and all that it calls make is longer than what came in: it says more and counts as full. Else prove '..UptoSaid'. A law counts once. -/
mutual
def uptoBulk {H : Type} : DataW H → Nat
  | .lit (.string bytes) => bytes.length + 1
  | .lit _ => 1
  | .nil => 1
  | .ptr d => uptoBulk d + 1
  | .slice elems spare => uptoBulkAll elems + uptoBulkAll spare + 1
  | .agg parts => uptoBulkAll parts + 1
  | .iface _ d => uptoBulk d + 1
  | .map entries => uptoBulkEntries entries + 1
  | .held _ => 1
def uptoBulkAll {H : Type} : List (DataW H) → Nat
  | [] => 0
  | d :: r => uptoBulk d + uptoBulkAll r
def uptoBulkEntries {H : Type} : List (Lit × DataW H) → Nat
  | [] => 0
  | x :: r => uptoBulkEntry x + uptoBulkEntries r
def uptoBulkEntry {H : Type} : Lit × DataW H → Nat
  | (.string bytes, d) => bytes.length + uptoBulk d + 1
  | (_, d) => uptoBulk d + 1
 end
def uptoSmall : (H : Type) → List (DataW H) → Bool := fun _ ds => decide (uptoBulkAll ds ≤ 1048576)
def OpenSpec.upto (s : _root_.Go.ChangeSpec) : _root_.Go.OpenSpec := { _root_.Go.OpenSpec.ofChange s with cond := some uptoSmall }

/-- 'laws.FnSpotFar', WHERE WHAT IT READS IS OF BULK AT MOST 1048576: true; the input reads as it did. -/
def fnSpotFarUptoRow : OpenClaim := { program := "ytmcippkpgmehdaa", sum := "eb2e3caccb2f9efc7b6a76bc602c2d420d3634bf63a1240f0489de0a418cc227", func := "loop.example/alidade/laws.FnSpotFar", spec := "fnSpotFar", unfollowed := true, recurses := true, apart := false, narrowed := true }
def FnSpotFarUptoSaid : Prop := fnSpotFarUptoRow.holds Try.pinned (OpenSpec.upto fnSpotFarSpec)

/-- 'laws.FnSpotSame', WHERE WHAT IT READS IS OF BULK AT MOST 1048576: true; the input reads as it did. -/
def fnSpotSameUptoRow : OpenClaim := { program := "ytmcippkpgmehdaa", sum := "eb2e3caccb2f9efc7b6a76bc602c2d420d3634bf63a1240f0489de0a418cc227", func := "loop.example/alidade/laws.FnSpotSame", spec := "fnSpotSame", unfollowed := true, recurses := true, apart := false, narrowed := true }
def FnSpotSameUptoSaid : Prop := fnSpotSameUptoRow.holds Try.pinned (OpenSpec.upto fnSpotSameSpec)

/-- 'laws.FnExactSpotNear', WHERE WHAT IT READS IS OF BULK AT MOST 1048576: true; the input reads as it did. -/
def fnExactSpotNearUptoRow : OpenClaim := { program := "ytmcippkpgmehdaa", sum := "eb2e3caccb2f9efc7b6a76bc602c2d420d3634bf63a1240f0489de0a418cc227", func := "loop.example/alidade/laws.FnExactSpotNear", spec := "fnExactSpotNear", recurses := true, apart := false, narrowed := true }
def FnExactSpotNearUptoSaid : Prop := fnExactSpotNearUptoRow.holds Try.pinned (OpenSpec.upto fnExactSpotNearSpec)

/-- 'laws.FnSpotSquare', WHERE WHAT IT READS IS OF BULK AT MOST 1048576: true; the input reads as it did. -/
def fnSpotSquareUptoRow : OpenClaim := { program := "ytmcippkpgmehdaa", sum := "eb2e3caccb2f9efc7b6a76bc602c2d420d3634bf63a1240f0489de0a418cc227", func := "loop.example/alidade/laws.FnSpotSquare", spec := "fnSpotSquare", recurses := true, apart := false, narrowed := true }
def FnSpotSquareUptoSaid : Prop := fnSpotSquareUptoRow.holds Try.pinned (OpenSpec.upto fnSpotSquareSpec)

/-- 'laws.FnSpotSquareFar', WHERE WHAT IT READS IS OF BULK AT MOST 1048576: true; the input reads as it did. -/
def fnSpotSquareFarUptoRow : OpenClaim := { program := "ytmcippkpgmehdaa", sum := "eb2e3caccb2f9efc7b6a76bc602c2d420d3634bf63a1240f0489de0a418cc227", func := "loop.example/alidade/laws.FnSpotSquareFar", spec := "fnSpotSquareFar", recurses := true, apart := false, narrowed := true }
def FnSpotSquareFarUptoSaid : Prop := fnSpotSquareFarUptoRow.holds Try.pinned (OpenSpec.upto fnSpotSquareFarSpec)

/-- 'laws.FnSpotTurn', WHERE WHAT IT READS IS OF BULK AT MOST 1048576: true; the input reads as it did. -/
def fnSpotTurnUptoRow : OpenClaim := { program := "ytmcippkpgmehdaa", sum := "eb2e3caccb2f9efc7b6a76bc602c2d420d3634bf63a1240f0489de0a418cc227", func := "loop.example/alidade/laws.FnSpotTurn", spec := "fnSpotTurn", recurses := true, apart := false, narrowed := true }
def FnSpotTurnUptoSaid : Prop := fnSpotTurnUptoRow.holds Try.pinned (OpenSpec.upto fnSpotTurnSpec)

/-- 'laws.FnSpotNear', WHERE WHAT IT READS IS OF BULK AT MOST 1048576: true; the input reads as it did. -/
def fnSpotNearUptoRow : OpenClaim := { program := "ytmcippkpgmehdaa", sum := "eb2e3caccb2f9efc7b6a76bc602c2d420d3634bf63a1240f0489de0a418cc227", func := "loop.example/alidade/laws.FnSpotNear", spec := "fnSpotNear", unfollowed := true, recurses := true, apart := false, narrowed := true }
def FnSpotNearUptoSaid : Prop := fnSpotNearUptoRow.holds Try.pinned (OpenSpec.upto fnSpotNearSpec)

/-- 'laws.FnSpotDist', WHERE WHAT IT READS IS OF BULK AT MOST 1048576: true; the input reads as it did. -/
def fnSpotDistUptoRow : OpenClaim := { program := "ytmcippkpgmehdaa", sum := "eb2e3caccb2f9efc7b6a76bc602c2d420d3634bf63a1240f0489de0a418cc227", func := "loop.example/alidade/laws.FnSpotDist", spec := "fnSpotDist", unfollowed := true, recurses := true, apart := false, narrowed := true }
def FnSpotDistUptoSaid : Prop := fnSpotDistUptoRow.holds Try.pinned (OpenSpec.upto fnSpotDistSpec)

/-- 'laws.FnSpotDistThree', WHERE WHAT IT READS IS OF BULK AT MOST 1048576: true; the input reads as it did. -/
def fnSpotDistThreeUptoRow : OpenClaim := { program := "ytmcippkpgmehdaa", sum := "eb2e3caccb2f9efc7b6a76bc602c2d420d3634bf63a1240f0489de0a418cc227", func := "loop.example/alidade/laws.FnSpotDistThree", spec := "fnSpotDistThree", unfollowed := true, recurses := true, apart := false, narrowed := true }
def FnSpotDistThreeUptoSaid : Prop := fnSpotDistThreeUptoRow.holds Try.pinned (OpenSpec.upto fnSpotDistThreeSpec)

/-- 'laws.FnSpotDistUp', WHERE WHAT IT READS IS OF BULK AT MOST 1048576: true; the input reads as it did. -/
def fnSpotDistUpUptoRow : OpenClaim := { program := "ytmcippkpgmehdaa", sum := "eb2e3caccb2f9efc7b6a76bc602c2d420d3634bf63a1240f0489de0a418cc227", func := "loop.example/alidade/laws.FnSpotDistUp", spec := "fnSpotDistUp", unfollowed := true, recurses := true, apart := false, narrowed := true }
def FnSpotDistUpUptoSaid : Prop := fnSpotDistUpUptoRow.holds Try.pinned (OpenSpec.upto fnSpotDistUpSpec)

/-- 'laws.FnSpotDistFar', WHERE WHAT IT READS IS OF BULK AT MOST 1048576: true; the input reads as it did. -/
def fnSpotDistFarUptoRow : OpenClaim := { program := "ytmcippkpgmehdaa", sum := "eb2e3caccb2f9efc7b6a76bc602c2d420d3634bf63a1240f0489de0a418cc227", func := "loop.example/alidade/laws.FnSpotDistFar", spec := "fnSpotDistFar", unfollowed := true, recurses := true, apart := false, narrowed := true }
def FnSpotDistFarUptoSaid : Prop := fnSpotDistFarUptoRow.holds Try.pinned (OpenSpec.upto fnSpotDistFarSpec)

/-- 'laws.FnExactSpotRound', WHERE WHAT IT READS IS OF BULK AT MOST 1048576: true; the input reads as it did. -/
def fnExactSpotRoundUptoRow : OpenClaim := { program := "ytmcippkpgmehdaa", sum := "eb2e3caccb2f9efc7b6a76bc602c2d420d3634bf63a1240f0489de0a418cc227", func := "loop.example/alidade/laws.FnExactSpotRound", spec := "fnExactSpotRound", unfollowed := true, recurses := true, apart := false, narrowed := true }
def FnExactSpotRoundUptoSaid : Prop := fnExactSpotRoundUptoRow.holds Try.pinned (OpenSpec.upto fnExactSpotRoundSpec)

/-- 'laws.FnSpotDistAround', WHERE WHAT IT READS IS OF BULK AT MOST 1048576: true; the input reads as it did. -/
def fnSpotDistAroundUptoRow : OpenClaim := { program := "ytmcippkpgmehdaa", sum := "eb2e3caccb2f9efc7b6a76bc602c2d420d3634bf63a1240f0489de0a418cc227", func := "loop.example/alidade/laws.FnSpotDistAround", spec := "fnSpotDistAround", unfollowed := true, recurses := true, apart := false, narrowed := true }
def FnSpotDistAroundUptoSaid : Prop := fnSpotDistAroundUptoRow.holds Try.pinned (OpenSpec.upto fnSpotDistAroundSpec)

/-- 'laws.FnSpotRound', WHERE WHAT IT READS IS OF BULK AT MOST 1048576: true; the input reads as it did. -/
def fnSpotRoundUptoRow : OpenClaim := { program := "ytmcippkpgmehdaa", sum := "eb2e3caccb2f9efc7b6a76bc602c2d420d3634bf63a1240f0489de0a418cc227", func := "loop.example/alidade/laws.FnSpotRound", spec := "fnSpotRound", unfollowed := true, recurses := true, apart := false, narrowed := true }
def FnSpotRoundUptoSaid : Prop := fnSpotRoundUptoRow.holds Try.pinned (OpenSpec.upto fnSpotRoundSpec)

end Rows
end Go.Proofs.Ytmcippkpgmehdaa

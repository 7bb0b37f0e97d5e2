/-
  No cell of these rows narrows 'for every input' (looked for: loops, veiled, ifaces, maps, wideKeys, modest, calm, conditions, laid).
  DERIVED. THE GIVEN ROWS OF THIS SEAT. 4 by the template 'for every input the law returns true; each argument reads behind the call as it read before'; 0 by the template 'total and deterministic' (their statements: YtpomeapjfbkipaaTotals.lean).
  GIVEN WITH THE SEED: the statements are not yours to turn. If you find one false, say at which input.
  Laid BY PROGRAM, IN A SANDBOX (cutbox-rows.mjs): the forced cells as the released guide's own fill.sh prints them over the translation 249d684957908e7a… (all of the seat's roots in one cut). By AI agents, Wed Nov 11 2026. No macro, syntax, notation, axiom, sorry.
-/
import Derived.Test.YtpomeapjfbkipaaChecked
import GoSem.Claim
import GoSem.ClaimJoined
import GoSem.ClaimMapViews
import Derived.JoinedTies
import Derived.KernelRfl
namespace Go.Proofs.Ytpomeapjfbkipaa
/- THE CELL 'sum', in the pinned program and in every row, IS THE sha256 OF THE DUMP (.gsa) THAT YtpomeapjfbkipaaProg.lean LOADS. Nothing in Lean hashes anything: it is a label: what it is worth is what the hold of that sum in a sandbox is worth. -/
noncomputable def Try.pinned : Pinned := { name := "ytpomeapjfbkipaa", sum := "249d684957908e7aca0cb262d7229d14dfe800752da2020ea75ae2863845ea59", checked := Try.checked }
namespace Rows
def none {H : Type} : Left H := { results := [], args := [] }

/-- 'laws.FnExactSpotOk': WHATEVER THE INPUT: true; the input reads as it did. -/
def fnExactSpotOkSpec : ChangeSpec := { name := "fnExactSpotOk", fn := fun _ => fun
  | [d] => { results := [.lit (.bool true)], args := [d] }
  | _ => none }
def fnExactSpotOkRow : OpenClaim := { program := "ytpomeapjfbkipaa", sum := "249d684957908e7aca0cb262d7229d14dfe800752da2020ea75ae2863845ea59", func := "loop.example/alidade/laws.FnExactSpotOk", spec := "fnExactSpotOk", apart := false }
def FnExactSpotOkSaid : Prop := fnExactSpotOkRow.holds Try.pinned (OpenSpec.ofChange fnExactSpotOkSpec)

/-- ITS FALSE NEIGHBOUR: 'it returns false'. Refute it at one input. -/
def fnExactSpotOkWrong : ChangeSpec := { name := "fnExactSpotOk", fn := fun _ => fun
  | [d] => { results := [.lit (.bool false)], args := [d] }
  | _ => none }
def FnExactSpotOkWrongFalsely : Prop := fnExactSpotOkRow.holds Try.pinned (OpenSpec.ofChange fnExactSpotOkWrong)

/-- 'laws.FnExactSpotSame': WHATEVER THE INPUT: true; the input reads as it did. -/
def fnExactSpotSameSpec : ChangeSpec := { name := "fnExactSpotSame", fn := fun _ => fun
  | [d1, d2] => { results := [.lit (.bool true)], args := [d1, d2] }
  | _ => none }
def fnExactSpotSameRow : OpenClaim := { program := "ytpomeapjfbkipaa", sum := "249d684957908e7aca0cb262d7229d14dfe800752da2020ea75ae2863845ea59", func := "loop.example/alidade/laws.FnExactSpotSame", spec := "fnExactSpotSame", apart := false }
def FnExactSpotSameSaid : Prop := fnExactSpotSameRow.holds Try.pinned (OpenSpec.ofChange fnExactSpotSameSpec)

/-- ITS FALSE NEIGHBOUR: 'it returns false'. Refute it at one input. -/
def fnExactSpotSameWrong : ChangeSpec := { name := "fnExactSpotSame", fn := fun _ => fun
  | [d1, d2] => { results := [.lit (.bool false)], args := [d1, d2] }
  | _ => none }
def FnExactSpotSameWrongFalsely : Prop := fnExactSpotSameRow.holds Try.pinned (OpenSpec.ofChange fnExactSpotSameWrong)

/-- 'laws.FnExactTurnLong': WHATEVER THE INPUT: true; the input reads as it did. -/
def fnExactTurnLongSpec : ChangeSpec := { name := "fnExactTurnLong", fn := fun _ => fun
  | [d1, d2] => { results := [.lit (.bool true)], args := [d1, d2] }
  | _ => none }
def fnExactTurnLongRow : OpenClaim := { program := "ytpomeapjfbkipaa", sum := "249d684957908e7aca0cb262d7229d14dfe800752da2020ea75ae2863845ea59", func := "loop.example/alidade/laws.FnExactTurnLong", spec := "fnExactTurnLong", apart := false }
def FnExactTurnLongSaid : Prop := fnExactTurnLongRow.holds Try.pinned (OpenSpec.ofChange fnExactTurnLongSpec)

/-- ITS FALSE NEIGHBOUR: 'it returns false'. Refute it at one input. -/
def fnExactTurnLongWrong : ChangeSpec := { name := "fnExactTurnLong", fn := fun _ => fun
  | [d1, d2] => { results := [.lit (.bool false)], args := [d1, d2] }
  | _ => none }
def FnExactTurnLongWrongFalsely : Prop := fnExactTurnLongRow.holds Try.pinned (OpenSpec.ofChange fnExactTurnLongWrong)

/-- 'laws.FnTurnLong': WHATEVER THE INPUT: true; the input reads as it did. -/
def fnTurnLongSpec : ChangeSpec := { name := "fnTurnLong", fn := fun _ => fun
  | [d] => { results := [.lit (.bool true)], args := [d] }
  | _ => none }
def fnTurnLongRow : OpenClaim := { program := "ytpomeapjfbkipaa", sum := "249d684957908e7aca0cb262d7229d14dfe800752da2020ea75ae2863845ea59", func := "loop.example/alidade/laws.FnTurnLong", spec := "fnTurnLong", apart := false }
def FnTurnLongSaid : Prop := fnTurnLongRow.holds Try.pinned (OpenSpec.ofChange fnTurnLongSpec)

/-- ITS FALSE NEIGHBOUR: 'it returns false'. Refute it at one input. -/
def fnTurnLongWrong : ChangeSpec := { name := "fnTurnLong", fn := fun _ => fun
  | [d] => { results := [.lit (.bool false)], args := [d] }
  | _ => none }
def FnTurnLongWrongFalsely : Prop := fnTurnLongRow.holds Try.pinned (OpenSpec.ofChange fnTurnLongWrong)

/- THE SECOND FORM. 'bulk': how many values and letters a reading holds, each counted each time it is reached (what is shared counts as often as it is met; a slice's spare places count too). A statement '..UptoSaid' is the law's where the arguments, and the package variables that the reading takes, are together of bulk at most 1048576: NARROWER than '..Said'. Prove '..Said' where nothing that the law and all that it calls make is longer than what came in: it says more and counts as full. Else prove '..UptoSaid'. A law counts once. -/
mutual
def uptoBulk {H : Type} : DataW H → Nat
  | .lit (.string bytes) => bytes.length + 1
  | .lit _ => 1
  | .nil => 1
  | .ptr d => uptoBulk d + 1
  | .slice elems spare => uptoBulkAll elems + uptoBulkAll spare + 1
  | .agg parts => uptoBulkAll parts + 1
  | .iface _ d => uptoBulk d + 1
  | .map entries => uptoBulkEntries entries + 1
  | .held _ => 1
def uptoBulkAll {H : Type} : List (DataW H) → Nat
  | [] => 0
  | d :: r => uptoBulk d + uptoBulkAll r
def uptoBulkEntries {H : Type} : List (Lit × DataW H) → Nat
  | [] => 0
  | x :: r => uptoBulkEntry x + uptoBulkEntries r
def uptoBulkEntry {H : Type} : Lit × DataW H → Nat
  | (.string bytes, d) => bytes.length + uptoBulk d + 1
  | (_, d) => uptoBulk d + 1
 end
def uptoSmall : (H : Type) → List (DataW H) → Bool := fun _ ds => decide (uptoBulkAll ds ≤ 1048576)
def OpenSpec.upto (s : _root_.Go.ChangeSpec) : _root_.Go.OpenSpec := { _root_.Go.OpenSpec.ofChange s with cond := some uptoSmall }

/-- 'laws.FnExactSpotOk', WHERE WHAT IT READS IS OF BULK AT MOST 1048576: true; the input reads as it did. -/
def fnExactSpotOkUptoRow : OpenClaim := { program := "ytpomeapjfbkipaa", sum := "249d684957908e7aca0cb262d7229d14dfe800752da2020ea75ae2863845ea59", func := "loop.example/alidade/laws.FnExactSpotOk", spec := "fnExactSpotOk", apart := false, narrowed := true }
def FnExactSpotOkUptoSaid : Prop := fnExactSpotOkUptoRow.holds Try.pinned (OpenSpec.upto fnExactSpotOkSpec)

/-- 'laws.FnExactSpotSame', WHERE WHAT IT READS IS OF BULK AT MOST 1048576: true; the input reads as it did. -/
def fnExactSpotSameUptoRow : OpenClaim := { program := "ytpomeapjfbkipaa", sum := "249d684957908e7aca0cb262d7229d14dfe800752da2020ea75ae2863845ea59", func := "loop.example/alidade/laws.FnExactSpotSame", spec := "fnExactSpotSame", apart := false, narrowed := true }
def FnExactSpotSameUptoSaid : Prop := fnExactSpotSameUptoRow.holds Try.pinned (OpenSpec.upto fnExactSpotSameSpec)

/-- 'laws.FnExactTurnLong', WHERE WHAT IT READS IS OF BULK AT MOST 1048576: true; the input reads as it did. -/
def fnExactTurnLongUptoRow : OpenClaim := { program := "ytpomeapjfbkipaa", sum := "249d684957908e7aca0cb262d7229d14dfe800752da2020ea75ae2863845ea59", func := "loop.example/alidade/laws.FnExactTurnLong", spec := "fnExactTurnLong", apart := false, narrowed := true }
def FnExactTurnLongUptoSaid : Prop := fnExactTurnLongUptoRow.holds Try.pinned (OpenSpec.upto fnExactTurnLongSpec)

/-- 'laws.FnTurnLong', WHERE WHAT IT READS IS OF BULK AT MOST 1048576: true; the input reads as it did. -/
def fnTurnLongUptoRow : OpenClaim := { program := "ytpomeapjfbkipaa", sum := "249d684957908e7aca0cb262d7229d14dfe800752da2020ea75ae2863845ea59", func := "loop.example/alidade/laws.FnTurnLong", spec := "fnTurnLong", apart := false, narrowed := true }
def FnTurnLongUptoSaid : Prop := fnTurnLongUptoRow.holds Try.pinned (OpenSpec.upto fnTurnLongSpec)

end Rows
end Go.Proofs.Ytpomeapjfbkipaa

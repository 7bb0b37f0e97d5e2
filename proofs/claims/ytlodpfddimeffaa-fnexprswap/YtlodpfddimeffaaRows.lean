/-
  NARROWER THAN 'FOR EVERY INPUT', by the rows' own cells (each row's printed sentence says how): FnExactExprOk: loops · FnExactExprRat: loops · FnExactExprSpan: loops · FnExactExprRound: loops.
  DERIVED. THE GIVEN ROWS OF THIS SEAT. 12 by the template 'for every input the law returns true; each argument reads behind the call as it read before'; 0 by the template 'total and deterministic' (their statements: YtlodpfddimeffaaTotals.lean).
  GIVEN WITH THE SEED: the statements are not yours to turn. If you find one false, say at which input.
  Laid BY PROGRAM, IN A SANDBOX (cutbox-rows.mjs): the forced cells as the released guide's own fill.sh prints them over the translation 21dc9ada92b2dcc0… (all of the seat's roots in one cut). By AI agents, Wed Nov 11 2026. No macro, syntax, notation, axiom, sorry.
-/
import Derived.Test.YtlodpfddimeffaaChecked
import GoSem.Claim
import GoSem.ClaimJoined
import GoSem.ClaimMapViews
import Derived.JoinedTies
import Derived.KernelRfl
namespace Go.Proofs.Ytlodpfddimeffaa
/- THE CELL 'sum', in the pinned program and in every row, IS THE sha256 OF THE DUMP (.gsa) THAT YtlodpfddimeffaaProg.lean LOADS. Nothing in Lean hashes anything: it is a label: what it is worth is what the hold of that sum in a sandbox is worth. -/
noncomputable def Try.pinned : Pinned := { name := "ytlodpfddimeffaa", sum := "21dc9ada92b2dcc0c0df9d3aec24c6d08229456cb9bc65e778a1e065900eb580", checked := Try.checked }
namespace Rows
def none {H : Type} : Left H := { results := [], args := [] }

/-- 'laws.FnExprSure': WHATEVER THE INPUT: true; the input reads as it did. -/
def fnExprSureSpec : ChangeSpec := { name := "fnExprSure", fn := fun _ => fun
  | [d] => { results := [.lit (.bool true)], args := [d] }
  | _ => none }
def fnExprSureRow : OpenClaim := { program := "ytlodpfddimeffaa", sum := "21dc9ada92b2dcc0c0df9d3aec24c6d08229456cb9bc65e778a1e065900eb580", func := "loop.example/alidade/laws.FnExprSure", spec := "fnExprSure", recurses := true, apart := false }
def FnExprSureSaid : Prop := fnExprSureRow.holds Try.pinned (OpenSpec.ofChange fnExprSureSpec)

/-- ITS FALSE NEIGHBOUR: 'it returns false'. Refute it at one input. -/
def fnExprSureWrong : ChangeSpec := { name := "fnExprSure", fn := fun _ => fun
  | [d] => { results := [.lit (.bool false)], args := [d] }
  | _ => none }
def FnExprSureWrongFalsely : Prop := fnExprSureRow.holds Try.pinned (OpenSpec.ofChange fnExprSureWrong)

/-- 'laws.FnExactExprOk': WHATEVER THE INPUT: true; the input reads as it did. -/
def fnExactExprOkSpec : ChangeSpec := { name := "fnExactExprOk", fn := fun _ => fun
  | [d] => { results := [.lit (.bool true)], args := [d] }
  | _ => none }
def fnExactExprOkRow : OpenClaim := { program := "ytlodpfddimeffaa", sum := "21dc9ada92b2dcc0c0df9d3aec24c6d08229456cb9bc65e778a1e065900eb580", func := "loop.example/alidade/laws.FnExactExprOk", spec := "fnExactExprOk", recurses := true, loops := true, apart := false }
def FnExactExprOkSaid : Prop := fnExactExprOkRow.holds Try.pinned (OpenSpec.ofChange fnExactExprOkSpec)

/-- ITS FALSE NEIGHBOUR: 'it returns false'. Refute it at one input. -/
def fnExactExprOkWrong : ChangeSpec := { name := "fnExactExprOk", fn := fun _ => fun
  | [d] => { results := [.lit (.bool false)], args := [d] }
  | _ => none }
def FnExactExprOkWrongFalsely : Prop := fnExactExprOkRow.holds Try.pinned (OpenSpec.ofChange fnExactExprOkWrong)

/-- 'laws.FnExactExprRat': WHATEVER THE INPUT: true; the input reads as it did. -/
def fnExactExprRatSpec : ChangeSpec := { name := "fnExactExprRat", fn := fun _ => fun
  | [d] => { results := [.lit (.bool true)], args := [d] }
  | _ => none }
def fnExactExprRatRow : OpenClaim := { program := "ytlodpfddimeffaa", sum := "21dc9ada92b2dcc0c0df9d3aec24c6d08229456cb9bc65e778a1e065900eb580", func := "loop.example/alidade/laws.FnExactExprRat", spec := "fnExactExprRat", recurses := true, loops := true, apart := false }
def FnExactExprRatSaid : Prop := fnExactExprRatRow.holds Try.pinned (OpenSpec.ofChange fnExactExprRatSpec)

/-- ITS FALSE NEIGHBOUR: 'it returns false'. Refute it at one input. -/
def fnExactExprRatWrong : ChangeSpec := { name := "fnExactExprRat", fn := fun _ => fun
  | [d] => { results := [.lit (.bool false)], args := [d] }
  | _ => none }
def FnExactExprRatWrongFalsely : Prop := fnExactExprRatRow.holds Try.pinned (OpenSpec.ofChange fnExactExprRatWrong)

/-- 'laws.FnExprTop': WHATEVER THE INPUT: true; the input reads as it did. -/
def fnExprTopSpec : ChangeSpec := { name := "fnExprTop", fn := fun _ => fun
  | [d] => { results := [.lit (.bool true)], args := [d] }
  | _ => none }
def fnExprTopRow : OpenClaim := { program := "ytlodpfddimeffaa", sum := "21dc9ada92b2dcc0c0df9d3aec24c6d08229456cb9bc65e778a1e065900eb580", func := "loop.example/alidade/laws.FnExprTop", spec := "fnExprTop", recurses := true, apart := false }
def FnExprTopSaid : Prop := fnExprTopRow.holds Try.pinned (OpenSpec.ofChange fnExprTopSpec)

/-- ITS FALSE NEIGHBOUR: 'it returns false'. Refute it at one input. -/
def fnExprTopWrong : ChangeSpec := { name := "fnExprTop", fn := fun _ => fun
  | [d] => { results := [.lit (.bool false)], args := [d] }
  | _ => none }
def FnExprTopWrongFalsely : Prop := fnExprTopRow.holds Try.pinned (OpenSpec.ofChange fnExprTopWrong)

/-- 'laws.FnExprRound': WHATEVER THE INPUT: true; the input reads as it did. -/
def fnExprRoundSpec : ChangeSpec := { name := "fnExprRound", fn := fun _ => fun
  | [d1, d2] => { results := [.lit (.bool true)], args := [d1, d2] }
  | _ => none }
def fnExprRoundRow : OpenClaim := { program := "ytlodpfddimeffaa", sum := "21dc9ada92b2dcc0c0df9d3aec24c6d08229456cb9bc65e778a1e065900eb580", func := "loop.example/alidade/laws.FnExprRound", spec := "fnExprRound", recurses := true, apart := false }
def FnExprRoundSaid : Prop := fnExprRoundRow.holds Try.pinned (OpenSpec.ofChange fnExprRoundSpec)

/-- ITS FALSE NEIGHBOUR: 'it returns false'. Refute it at one input. -/
def fnExprRoundWrong : ChangeSpec := { name := "fnExprRound", fn := fun _ => fun
  | [d1, d2] => { results := [.lit (.bool false)], args := [d1, d2] }
  | _ => none }
def FnExprRoundWrongFalsely : Prop := fnExprRoundRow.holds Try.pinned (OpenSpec.ofChange fnExprRoundWrong)

/-- 'laws.FnExprOk': WHATEVER THE INPUT: true; the input reads as it did. -/
def fnExprOkSpec : ChangeSpec := { name := "fnExprOk", fn := fun _ => fun
  | [d] => { results := [.lit (.bool true)], args := [d] }
  | _ => none }
def fnExprOkRow : OpenClaim := { program := "ytlodpfddimeffaa", sum := "21dc9ada92b2dcc0c0df9d3aec24c6d08229456cb9bc65e778a1e065900eb580", func := "loop.example/alidade/laws.FnExprOk", spec := "fnExprOk", recurses := true, apart := false }
def FnExprOkSaid : Prop := fnExprOkRow.holds Try.pinned (OpenSpec.ofChange fnExprOkSpec)

/-- ITS FALSE NEIGHBOUR: 'it returns false'. Refute it at one input. -/
def fnExprOkWrong : ChangeSpec := { name := "fnExprOk", fn := fun _ => fun
  | [d] => { results := [.lit (.bool false)], args := [d] }
  | _ => none }
def FnExprOkWrongFalsely : Prop := fnExprOkRow.holds Try.pinned (OpenSpec.ofChange fnExprOkWrong)

/-- 'laws.FnExprLeast': WHATEVER THE INPUT: true; the input reads as it did. -/
def fnExprLeastSpec : ChangeSpec := { name := "fnExprLeast", fn := fun _ => fun
  | [d] => { results := [.lit (.bool true)], args := [d] }
  | _ => none }
def fnExprLeastRow : OpenClaim := { program := "ytlodpfddimeffaa", sum := "21dc9ada92b2dcc0c0df9d3aec24c6d08229456cb9bc65e778a1e065900eb580", func := "loop.example/alidade/laws.FnExprLeast", spec := "fnExprLeast", recurses := true, apart := false }
def FnExprLeastSaid : Prop := fnExprLeastRow.holds Try.pinned (OpenSpec.ofChange fnExprLeastSpec)

/-- ITS FALSE NEIGHBOUR: 'it returns false'. Refute it at one input. -/
def fnExprLeastWrong : ChangeSpec := { name := "fnExprLeast", fn := fun _ => fun
  | [d] => { results := [.lit (.bool false)], args := [d] }
  | _ => none }
def FnExprLeastWrongFalsely : Prop := fnExprLeastRow.holds Try.pinned (OpenSpec.ofChange fnExprLeastWrong)

/-- 'laws.FnExactExprSpan': WHATEVER THE INPUT: true; the input reads as it did. -/
def fnExactExprSpanSpec : ChangeSpec := { name := "fnExactExprSpan", fn := fun _ => fun
  | [d] => { results := [.lit (.bool true)], args := [d] }
  | _ => none }
def fnExactExprSpanRow : OpenClaim := { program := "ytlodpfddimeffaa", sum := "21dc9ada92b2dcc0c0df9d3aec24c6d08229456cb9bc65e778a1e065900eb580", func := "loop.example/alidade/laws.FnExactExprSpan", spec := "fnExactExprSpan", recurses := true, loops := true, apart := false }
def FnExactExprSpanSaid : Prop := fnExactExprSpanRow.holds Try.pinned (OpenSpec.ofChange fnExactExprSpanSpec)

/-- ITS FALSE NEIGHBOUR: 'it returns false'. Refute it at one input. -/
def fnExactExprSpanWrong : ChangeSpec := { name := "fnExactExprSpan", fn := fun _ => fun
  | [d] => { results := [.lit (.bool false)], args := [d] }
  | _ => none }
def FnExactExprSpanWrongFalsely : Prop := fnExactExprSpanRow.holds Try.pinned (OpenSpec.ofChange fnExactExprSpanWrong)

/-- 'laws.FnExprNeg': WHATEVER THE INPUT: true; the input reads as it did. -/
def fnExprNegSpec : ChangeSpec := { name := "fnExprNeg", fn := fun _ => fun
  | [d] => { results := [.lit (.bool true)], args := [d] }
  | _ => none }
def fnExprNegRow : OpenClaim := { program := "ytlodpfddimeffaa", sum := "21dc9ada92b2dcc0c0df9d3aec24c6d08229456cb9bc65e778a1e065900eb580", func := "loop.example/alidade/laws.FnExprNeg", spec := "fnExprNeg", recurses := true, apart := false }
def FnExprNegSaid : Prop := fnExprNegRow.holds Try.pinned (OpenSpec.ofChange fnExprNegSpec)

/-- ITS FALSE NEIGHBOUR: 'it returns false'. Refute it at one input. -/
def fnExprNegWrong : ChangeSpec := { name := "fnExprNeg", fn := fun _ => fun
  | [d] => { results := [.lit (.bool false)], args := [d] }
  | _ => none }
def FnExprNegWrongFalsely : Prop := fnExprNegRow.holds Try.pinned (OpenSpec.ofChange fnExprNegWrong)

/-- 'laws.FnExprSpan': WHATEVER THE INPUT: true; the input reads as it did. -/
def fnExprSpanSpec : ChangeSpec := { name := "fnExprSpan", fn := fun _ => fun
  | [d] => { results := [.lit (.bool true)], args := [d] }
  | _ => none }
def fnExprSpanRow : OpenClaim := { program := "ytlodpfddimeffaa", sum := "21dc9ada92b2dcc0c0df9d3aec24c6d08229456cb9bc65e778a1e065900eb580", func := "loop.example/alidade/laws.FnExprSpan", spec := "fnExprSpan", recurses := true, apart := false }
def FnExprSpanSaid : Prop := fnExprSpanRow.holds Try.pinned (OpenSpec.ofChange fnExprSpanSpec)

/-- ITS FALSE NEIGHBOUR: 'it returns false'. Refute it at one input. -/
def fnExprSpanWrong : ChangeSpec := { name := "fnExprSpan", fn := fun _ => fun
  | [d] => { results := [.lit (.bool false)], args := [d] }
  | _ => none }
def FnExprSpanWrongFalsely : Prop := fnExprSpanRow.holds Try.pinned (OpenSpec.ofChange fnExprSpanWrong)

/-- 'laws.FnExprSwap': WHATEVER THE INPUT: true; the input reads as it did. -/
def fnExprSwapSpec : ChangeSpec := { name := "fnExprSwap", fn := fun _ => fun
  | [d] => { results := [.lit (.bool true)], args := [d] }
  | _ => none }
def fnExprSwapRow : OpenClaim := { program := "ytlodpfddimeffaa", sum := "21dc9ada92b2dcc0c0df9d3aec24c6d08229456cb9bc65e778a1e065900eb580", func := "loop.example/alidade/laws.FnExprSwap", spec := "fnExprSwap", recurses := true, apart := false }
def FnExprSwapSaid : Prop := fnExprSwapRow.holds Try.pinned (OpenSpec.ofChange fnExprSwapSpec)

/-- ITS FALSE NEIGHBOUR: 'it returns false'. Refute it at one input. -/
def fnExprSwapWrong : ChangeSpec := { name := "fnExprSwap", fn := fun _ => fun
  | [d] => { results := [.lit (.bool false)], args := [d] }
  | _ => none }
def FnExprSwapWrongFalsely : Prop := fnExprSwapRow.holds Try.pinned (OpenSpec.ofChange fnExprSwapWrong)

/-- 'laws.FnExactExprRound': WHATEVER THE INPUT: true; the input reads as it did. -/
def fnExactExprRoundSpec : ChangeSpec := { name := "fnExactExprRound", fn := fun _ => fun
  | [d1, d2, d3] => { results := [.lit (.bool true)], args := [d1, d2, d3] }
  | _ => none }
def fnExactExprRoundRow : OpenClaim := { program := "ytlodpfddimeffaa", sum := "21dc9ada92b2dcc0c0df9d3aec24c6d08229456cb9bc65e778a1e065900eb580", func := "loop.example/alidade/laws.FnExactExprRound", spec := "fnExactExprRound", recurses := true, loops := true, apart := false }
def FnExactExprRoundSaid : Prop := fnExactExprRoundRow.holds Try.pinned (OpenSpec.ofChange fnExactExprRoundSpec)

/-- ITS FALSE NEIGHBOUR: 'it returns false'. Refute it at one input. -/
def fnExactExprRoundWrong : ChangeSpec := { name := "fnExactExprRound", fn := fun _ => fun
  | [d1, d2, d3] => { results := [.lit (.bool false)], args := [d1, d2, d3] }
  | _ => none }
def FnExactExprRoundWrongFalsely : Prop := fnExactExprRoundRow.holds Try.pinned (OpenSpec.ofChange fnExactExprRoundWrong)

/- THE SECOND FORM. 'bulk': how many values and letters a reading holds, each counted each time it is reached (what is shared counts as often as it is met; a slice's spare places count too). A statement '..UptoSaid' is the law's where the arguments, and the package variables that the reading takes, are together of bulk at most 1048576: NARROWER than '..Said'. Prove '..Said' where nothing that the law and all that it calls make is longer than what came in: it says more and counts as full. Else prove '..UptoSaid'. A law counts once. -/
mutual
def uptoBulk {H : Type} : DataW H → Nat
  | .lit (.string bytes) => bytes.length + 1
  | .lit _ => 1
  | .nil => 1
  | .ptr d => uptoBulk d + 1
  | .slice elems spare => uptoBulkAll elems + uptoBulkAll spare + 1
  | .agg parts => uptoBulkAll parts + 1
  | .iface _ d => uptoBulk d + 1
  | .map entries => uptoBulkEntries entries + 1
  | .held _ => 1
def uptoBulkAll {H : Type} : List (DataW H) → Nat
  | [] => 0
  | d :: r => uptoBulk d + uptoBulkAll r
def uptoBulkEntries {H : Type} : List (Lit × DataW H) → Nat
  | [] => 0
  | x :: r => uptoBulkEntry x + uptoBulkEntries r
def uptoBulkEntry {H : Type} : Lit × DataW H → Nat
  | (.string bytes, d) => bytes.length + uptoBulk d + 1
  | (_, d) => uptoBulk d + 1
 end
def uptoSmall : (H : Type) → List (DataW H) → Bool := fun _ ds => decide (uptoBulkAll ds ≤ 1048576)
def OpenSpec.upto (s : _root_.Go.ChangeSpec) : _root_.Go.OpenSpec := { _root_.Go.OpenSpec.ofChange s with cond := some uptoSmall }

/-- 'laws.FnExprSure', WHERE WHAT IT READS IS OF BULK AT MOST 1048576: true; the input reads as it did. -/
def fnExprSureUptoRow : OpenClaim := { program := "ytlodpfddimeffaa", sum := "21dc9ada92b2dcc0c0df9d3aec24c6d08229456cb9bc65e778a1e065900eb580", func := "loop.example/alidade/laws.FnExprSure", spec := "fnExprSure", recurses := true, apart := false, narrowed := true }
def FnExprSureUptoSaid : Prop := fnExprSureUptoRow.holds Try.pinned (OpenSpec.upto fnExprSureSpec)

/-- 'laws.FnExactExprOk', WHERE WHAT IT READS IS OF BULK AT MOST 1048576: true; the input reads as it did. -/
def fnExactExprOkUptoRow : OpenClaim := { program := "ytlodpfddimeffaa", sum := "21dc9ada92b2dcc0c0df9d3aec24c6d08229456cb9bc65e778a1e065900eb580", func := "loop.example/alidade/laws.FnExactExprOk", spec := "fnExactExprOk", recurses := true, loops := true, apart := false, narrowed := true }
def FnExactExprOkUptoSaid : Prop := fnExactExprOkUptoRow.holds Try.pinned (OpenSpec.upto fnExactExprOkSpec)

/-- 'laws.FnExactExprRat', WHERE WHAT IT READS IS OF BULK AT MOST 1048576: true; the input reads as it did. -/
def fnExactExprRatUptoRow : OpenClaim := { program := "ytlodpfddimeffaa", sum := "21dc9ada92b2dcc0c0df9d3aec24c6d08229456cb9bc65e778a1e065900eb580", func := "loop.example/alidade/laws.FnExactExprRat", spec := "fnExactExprRat", recurses := true, loops := true, apart := false, narrowed := true }
def FnExactExprRatUptoSaid : Prop := fnExactExprRatUptoRow.holds Try.pinned (OpenSpec.upto fnExactExprRatSpec)

/-- 'laws.FnExprTop', WHERE WHAT IT READS IS OF BULK AT MOST 1048576: true; the input reads as it did. -/
def fnExprTopUptoRow : OpenClaim := { program := "ytlodpfddimeffaa", sum := "21dc9ada92b2dcc0c0df9d3aec24c6d08229456cb9bc65e778a1e065900eb580", func := "loop.example/alidade/laws.FnExprTop", spec := "fnExprTop", recurses := true, apart := false, narrowed := true }
def FnExprTopUptoSaid : Prop := fnExprTopUptoRow.holds Try.pinned (OpenSpec.upto fnExprTopSpec)

/-- 'laws.FnExprRound', WHERE WHAT IT READS IS OF BULK AT MOST 1048576: true; the input reads as it did. -/
def fnExprRoundUptoRow : OpenClaim := { program := "ytlodpfddimeffaa", sum := "21dc9ada92b2dcc0c0df9d3aec24c6d08229456cb9bc65e778a1e065900eb580", func := "loop.example/alidade/laws.FnExprRound", spec := "fnExprRound", recurses := true, apart := false, narrowed := true }
def FnExprRoundUptoSaid : Prop := fnExprRoundUptoRow.holds Try.pinned (OpenSpec.upto fnExprRoundSpec)

/-- 'laws.FnExprOk', WHERE WHAT IT READS IS OF BULK AT MOST 1048576: true; the input reads as it did. -/
def fnExprOkUptoRow : OpenClaim := { program := "ytlodpfddimeffaa", sum := "21dc9ada92b2dcc0c0df9d3aec24c6d08229456cb9bc65e778a1e065900eb580", func := "loop.example/alidade/laws.FnExprOk", spec := "fnExprOk", recurses := true, apart := false, narrowed := true }
def FnExprOkUptoSaid : Prop := fnExprOkUptoRow.holds Try.pinned (OpenSpec.upto fnExprOkSpec)

/-- 'laws.FnExprLeast', WHERE WHAT IT READS IS OF BULK AT MOST 1048576: true; the input reads as it did. -/
def fnExprLeastUptoRow : OpenClaim := { program := "ytlodpfddimeffaa", sum := "21dc9ada92b2dcc0c0df9d3aec24c6d08229456cb9bc65e778a1e065900eb580", func := "loop.example/alidade/laws.FnExprLeast", spec := "fnExprLeast", recurses := true, apart := false, narrowed := true }
def FnExprLeastUptoSaid : Prop := fnExprLeastUptoRow.holds Try.pinned (OpenSpec.upto fnExprLeastSpec)

/-- 'laws.FnExactExprSpan', WHERE WHAT IT READS IS OF BULK AT MOST 1048576: true; the input reads as it did. -/
def fnExactExprSpanUptoRow : OpenClaim := { program := "ytlodpfddimeffaa", sum := "21dc9ada92b2dcc0c0df9d3aec24c6d08229456cb9bc65e778a1e065900eb580", func := "loop.example/alidade/laws.FnExactExprSpan", spec := "fnExactExprSpan", recurses := true, loops := true, apart := false, narrowed := true }
def FnExactExprSpanUptoSaid : Prop := fnExactExprSpanUptoRow.holds Try.pinned (OpenSpec.upto fnExactExprSpanSpec)

/-- 'laws.FnExprNeg', WHERE WHAT IT READS IS OF BULK AT MOST 1048576: true; the input reads as it did. -/
def fnExprNegUptoRow : OpenClaim := { program := "ytlodpfddimeffaa", sum := "21dc9ada92b2dcc0c0df9d3aec24c6d08229456cb9bc65e778a1e065900eb580", func := "loop.example/alidade/laws.FnExprNeg", spec := "fnExprNeg", recurses := true, apart := false, narrowed := true }
def FnExprNegUptoSaid : Prop := fnExprNegUptoRow.holds Try.pinned (OpenSpec.upto fnExprNegSpec)

/-- 'laws.FnExprSpan', WHERE WHAT IT READS IS OF BULK AT MOST 1048576: true; the input reads as it did. -/
def fnExprSpanUptoRow : OpenClaim := { program := "ytlodpfddimeffaa", sum := "21dc9ada92b2dcc0c0df9d3aec24c6d08229456cb9bc65e778a1e065900eb580", func := "loop.example/alidade/laws.FnExprSpan", spec := "fnExprSpan", recurses := true, apart := false, narrowed := true }
def FnExprSpanUptoSaid : Prop := fnExprSpanUptoRow.holds Try.pinned (OpenSpec.upto fnExprSpanSpec)

/-- 'laws.FnExprSwap', WHERE WHAT IT READS IS OF BULK AT MOST 1048576: true; the input reads as it did. -/
def fnExprSwapUptoRow : OpenClaim := { program := "ytlodpfddimeffaa", sum := "21dc9ada92b2dcc0c0df9d3aec24c6d08229456cb9bc65e778a1e065900eb580", func := "loop.example/alidade/laws.FnExprSwap", spec := "fnExprSwap", recurses := true, apart := false, narrowed := true }
def FnExprSwapUptoSaid : Prop := fnExprSwapUptoRow.holds Try.pinned (OpenSpec.upto fnExprSwapSpec)

/-- 'laws.FnExactExprRound', WHERE WHAT IT READS IS OF BULK AT MOST 1048576: true; the input reads as it did. -/
def fnExactExprRoundUptoRow : OpenClaim := { program := "ytlodpfddimeffaa", sum := "21dc9ada92b2dcc0c0df9d3aec24c6d08229456cb9bc65e778a1e065900eb580", func := "loop.example/alidade/laws.FnExactExprRound", spec := "fnExactExprRound", recurses := true, loops := true, apart := false, narrowed := true }
def FnExactExprRoundUptoSaid : Prop := fnExactExprRoundUptoRow.holds Try.pinned (OpenSpec.upto fnExactExprRoundSpec)

end Rows
end Go.Proofs.Ytlodpfddimeffaa

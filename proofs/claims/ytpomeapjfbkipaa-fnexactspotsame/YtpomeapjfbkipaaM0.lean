import Derived.Test.YtpomeapjfbkipaaProg
import Derived.Below
import Derived.Deep.Draws
import Derived.Deep.AppendLies
import Derived.Maps.AppendAt
import Derived.OwnWalk
import Derived.Laws.BytesArg
import Derived.Laws.MakeOwn
import Derived.Laws.OwnMore
import Derived.Deep.OwnRows
import Derived.Tactics
import Derived.Lib.ConvBytes
import Derived.Laws.Slices
import Derived.WalkKit
import Derived.KernelRfl
import Derived.RowKit3
import Derived.Deep.LoopGhost
import Derived.Deep.QuietTactic
import Derived.BigQuiet
import Derived.WideLaws
import Derived.Deep.DeepCutAuto
import Derived.Deep.CutBlock
import Derived.Deep.RegionHeld3
import Derived.Laws.Rows
import Derived.Lib.AppendStr
import Derived.ArgAppend
import Derived.Laws.IdiomCopy
import Derived.OrdersHeld
import Derived.Laws.BitsLemmas
import Derived.RowKit
import Derived.Test.YtpomeapjfbkipaaWWords
import Derived.Test.YtpomeapjfbkipaaWLast
import Derived.Test.YtpomeapjfbkipaaWTab
import Derived.Test.YtpomeapjfbkipaaWFour
import Derived.Test.YtpomeapjfbkipaaWQPut
import Derived.Test.YtpomeapjfbkipaaWApart
import Derived.Test.YtpomeapjfbkipaaWArr
import Derived.Test.YtpomeapjfbkipaaWZeros
import Derived.Test.YtpomeapjfbkipaaWFoot
import Derived.Test.YtpomeapjfbkipaaWKept
import Derived.Test.YtpomeapjfbkipaaWShare
import Derived.Test.YtpomeapjfbkipaaWN
import Derived.Test.YtpomeapjfbkipaaWFootNe
import Derived.Test.YtpomeapjfbkipaaWAt
import Derived.Test.YtpomeapjfbkipaaWEqStruct
import Derived.Test.YtpomeapjfbkipaaWRepsOne
import Derived.Test.YtpomeapjfbkipaaWInv
import Derived.Test.YtpomeapjfbkipaaWInvWords
import Derived.Test.YtpomeapjfbkipaaWGuard
import Derived.Test.YtpomeapjfbkipaaWNEv
import Derived.Test.YtpomeapjfbkipaaWMore
namespace Go.Proofs.Ytpomeapjfbkipaa.M
open Go.RowKit Go.Proofs.YtpomeapjfbkipaaW.PrintWords Go.Proofs.YtpomeapjfbkipaaW.PrintLast Go.Proofs.YtpomeapjfbkipaaW.PrintMore
attribute [local go_sem] max2_int min2_int max_two min_two max_three min_three max_four min_four   -- for this text's walks alone
set_option linter.unusedVariables false
set_option linter.unusedSimpArgs false



def errW : Option Int → Value
  | none => .nilIface
  | some c => .iface 0 (.int .i64 c)
theorem errW_none : errW none = .nilIface := rfl
theorem errW_some (c : Int) : errW (some c) = .iface 0 (.int .i64 c) := rfl

theorem info5 : (Try.prog.info? 5).map (fun i => (i.zero, i.size, i.bytes)) = some (some (.int .u8 0), 1, 1) := by kernel_rfl
-- the values' own types

theorem eqA31 (d : Nat) (w : World) (x0 y0 : Int) (x1 y1 : Int) :
    (Op.equalIn (d + 2) 31 (.agg #[.int .i64 x0, .int .i64 x1]) (.agg #[.int .i64 y0, .int .i64 y1])).run Try.prog w = .ok (x0 == y0 && (x1 == y1)) w := by
  refine eqA_of Try.underlying31 (by kernel_rfl) ?_
  refine eqf_cons (by rfl) (by go_simp; rfl) (by go_simp; rfl) (by go_simp) ?_
  exact eqf_last (by rfl) (by go_simp; rfl) (by go_simp; rfl) (by go_simp)

theorem fld31_0 (x0 x1 : Value) (w : World) : Sem.run Try.prog (Instr.field 31 (.agg #[x0, x1]) 0) w = .ok x0 w := rfl
theorem fld31_1 (x0 x1 : Value) (w : World) : Sem.run Try.prog (Instr.field 31 (.agg #[x0, x1]) 1) w = .ok x1 w := rfl
theorem fld25_0 (x0 x1 : Value) (w : World) : Sem.run Try.prog (Instr.field 25 (.agg #[x0, x1]) 0) w = .ok x0 w := rfl
theorem fld25_1 (x0 x1 : Value) (w : World) : Sem.run Try.prog (Instr.field 25 (.agg #[x0, x1]) 1) w = .ok x1 w := rfl
theorem fld23_0 (x0 x1 : Value) (w : World) : Sem.run Try.prog (Instr.field 23 (.agg #[x0, x1]) 0) w = .ok x0 w := rfl
theorem fld23_1 (x0 x1 : Value) (w : World) : Sem.run Try.prog (Instr.field 23 (.agg #[x0, x1]) 1) w = .ok x1 w := rfl
/-! ### kit: what a call leaves, in few words -/
/-- 'w' stands at w' below block B, as a plain word, so that no rewriting takes it apart. -/
structure Bl (B : Nat) (w w' : World) : Prop where
  out : Below B w w'
theorem Bl.refl (w : World) : Bl w.heap.size w w := ⟨Below.refl _ _⟩
theorem Bl.alloc {w w' : World} (h : Bl w.heap.size w w') (o : Obj) : Bl w.heap.size w (w'.alloc o) := ⟨Below.alloc h.out (Below.size h.out) o⟩
theorem Bl.drew {B : Nat} {w w' : World} (h : Bl B w w') : Bl B w w'.drew := ⟨Below.drew h.out⟩
theorem Bl.drewN {B : Nat} {w w' : World} (h : Bl B w w') (n : Nat) : Bl B w (w'.drewN n) := ⟨pw_below_drewN h.out n⟩
theorem Bl.set {B : Nat} {w w' : World} {g j : Nat} {v : Value} (hg : B ≤ g) (h : Bl B w w') : Bl B w (w'.setCell ⟨g, j, none⟩ v) := ⟨Below.setCell h.out hg _⟩
theorem Bl.call {w W w1 : World} (hb : Below W.heap.size W w1) (h : Bl w.heap.size w W) : Bl w.heap.size w w1 := ⟨below_step h.out hb⟩
theorem Bl.le {w w' : World} (h : Bl w.heap.size w w') : w.heap.size ≤ w'.heap.size := Below.size h.out
theorem cell_call {W w1 : World} (hb : Below W.heap.size W w1) {a : Addr} {v : Value} (hc : W.cell? a = some v) : w1.cell? a = some v :=
  (hb.cell (World.block_lt_of_cell? W a hc)).trans hc
theorem bcell {W w1 : World} (hb : Below W.heap.size W w1) : (∀ b o, b < W.heap.size → w1.cell? ⟨b, o, none⟩ = W.cell? ⟨b, o, none⟩) ∧ (∀ b o, b < W.heap.size → w1.frozen? ⟨b, o, none⟩ = W.frozen? ⟨b, o, none⟩) :=
  ⟨fun b o h => hb.cell (p := ⟨b, o, none⟩) h, fun b o h => hb.frozen (p := ⟨b, o, none⟩) h⟩
theorem lt_call {W w1 : World} (hb : Below W.heap.size W w1) {n : Nat} (h : n < W.heap.size) : n < w1.heap.size := Nat.lt_of_lt_of_le h (Below.size hb)

end Go.Proofs.Ytpomeapjfbkipaa.M

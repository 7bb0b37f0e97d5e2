import Derived.Test.YtcdgplkmahabiaaProg
import Derived.Below
import Derived.Deep.Draws
import Derived.Deep.AppendLies
import Derived.Maps.AppendAt
import Derived.OwnWalk
import Derived.Laws.BytesArg
import Derived.Laws.MakeOwn
import Derived.Laws.OwnMore
import Derived.Deep.OwnRows
import Derived.Tactics
import Derived.Lib.ConvBytes
import Derived.Laws.Slices
import Derived.WalkKit
import Derived.KernelRfl
import Derived.RowKit3
import Derived.Deep.LoopGhost
import Derived.Deep.QuietTactic
import Derived.BigQuiet
import Derived.WideLaws
import Derived.Deep.DeepCutAuto
import Derived.Deep.CutBlock
import Derived.Deep.RegionHeld3
import Derived.Laws.Rows
import Derived.Lib.AppendStr
import Derived.ArgAppend
import Derived.Laws.IdiomCopy
import Derived.OrdersHeld
import Derived.Laws.BitsLemmas
import Derived.RowKit
import Derived.Test.YtcdgplkmahabiaaWWords
import Derived.Test.YtcdgplkmahabiaaWLast
import Derived.Test.YtcdgplkmahabiaaWTab
import Derived.Test.YtcdgplkmahabiaaWFour
import Derived.Test.YtcdgplkmahabiaaWQPut
import Derived.Test.YtcdgplkmahabiaaWApart
import Derived.Test.YtcdgplkmahabiaaWArr
import Derived.Test.YtcdgplkmahabiaaWZeros
import Derived.Test.YtcdgplkmahabiaaWFoot
import Derived.Test.YtcdgplkmahabiaaWKept
import Derived.Test.YtcdgplkmahabiaaWShare
import Derived.Test.YtcdgplkmahabiaaWN
import Derived.Test.YtcdgplkmahabiaaWFootNe
import Derived.Test.YtcdgplkmahabiaaWAt
import Derived.Test.YtcdgplkmahabiaaWEqStruct
import Derived.Test.YtcdgplkmahabiaaWRepsOne
import Derived.Test.YtcdgplkmahabiaaWInv
import Derived.Test.YtcdgplkmahabiaaWInvWords
import Derived.Test.YtcdgplkmahabiaaWGuard
import Derived.Test.YtcdgplkmahabiaaWNEv
import Derived.Test.YtcdgplkmahabiaaWMore
namespace Go.Proofs.Ytcdgplkmahabiaa.M
open Go.RowKit Go.Proofs.YtcdgplkmahabiaaW.PrintWords Go.Proofs.YtcdgplkmahabiaaW.PrintLast Go.Proofs.YtcdgplkmahabiaaW.PrintMore
attribute [local go_sem] max2_int min2_int max_two min_two max_three min_three max_four min_four   -- for this text's walks alone
set_option linter.unusedVariables false
set_option linter.unusedSimpArgs false



def errW : Option Int → Value
  | none => .nilIface
  | some c => .iface 0 (.int .i64 c)
theorem errW_none : errW none = .nilIface := rfl
theorem errW_some (c : Int) : errW (some c) = .iface 0 (.int .i64 c) := rfl

theorem info3 : (Try.prog.info? 3).map (fun i => (i.zero, i.size, i.bytes)) = some (some (.int .i64 0), 1, 8) := by kernel_rfl
theorem info5 : (Try.prog.info? 5).map (fun i => (i.zero, i.size, i.bytes)) = some (some (.int .u8 0), 1, 1) := by kernel_rfl
-- the values' own types

theorem eqA23 (d : Nat) (w : World) (x0 y0 : Int) (x1 y1 : Int) :
    (Op.equalIn (d + 2) 23 (.agg #[.int .i64 x0, .int .i64 x1]) (.agg #[.int .i64 y0, .int .i64 y1])).run Try.prog w = .ok (x0 == y0 && (x1 == y1)) w := by
  refine eqA_of Try.underlying23 (by kernel_rfl) ?_
  refine eqf_cons (by rfl) (by go_simp; rfl) (by go_simp; rfl) (by go_simp) ?_
  exact eqf_last (by rfl) (by go_simp; rfl) (by go_simp; rfl) (by go_simp)

theorem eqA30 (d : Nat) (w : World) (x0 y0 : Int) (x1 y1 : Int) :
    (Op.equalIn (d + 2) 30 (.agg #[.int .i64 x0, .int .i64 x1]) (.agg #[.int .i64 y0, .int .i64 y1])).run Try.prog w = .ok (x0 == y0 && (x1 == y1)) w := by
  refine eqA_of Try.underlying30 (by kernel_rfl) ?_
  refine eqf_cons (by rfl) (by go_simp; rfl) (by go_simp; rfl) (by go_simp) ?_
  exact eqf_last (by rfl) (by go_simp; rfl) (by go_simp; rfl) (by go_simp)

theorem fld23_0 (x0 x1 : Value) (w : World) : Sem.run Try.prog (Instr.field 23 (.agg #[x0, x1]) 0) w = .ok x0 w := rfl
theorem fld23_1 (x0 x1 : Value) (w : World) : Sem.run Try.prog (Instr.field 23 (.agg #[x0, x1]) 1) w = .ok x1 w := rfl
theorem fld30_0 (x0 x1 : Value) (w : World) : Sem.run Try.prog (Instr.field 30 (.agg #[x0, x1]) 0) w = .ok x0 w := rfl
theorem fld30_1 (x0 x1 : Value) (w : World) : Sem.run Try.prog (Instr.field 30 (.agg #[x0, x1]) 1) w = .ok x1 w := rfl
theorem fld55_0 (x0 x1 x2 x3 x4 : Value) (w : World) : Sem.run Try.prog (Instr.field 55 (.agg #[x0, x1, x2, x3, x4]) 0) w = .ok x0 w := rfl
theorem fld55_1 (x0 x1 x2 x3 x4 : Value) (w : World) : Sem.run Try.prog (Instr.field 55 (.agg #[x0, x1, x2, x3, x4]) 1) w = .ok x1 w := rfl
theorem fld55_2 (x0 x1 x2 x3 x4 : Value) (w : World) : Sem.run Try.prog (Instr.field 55 (.agg #[x0, x1, x2, x3, x4]) 2) w = .ok x2 w := rfl
theorem fld55_3 (x0 x1 x2 x3 x4 : Value) (w : World) : Sem.run Try.prog (Instr.field 55 (.agg #[x0, x1, x2, x3, x4]) 3) w = .ok x3 w := rfl
theorem fld55_4 (x0 x1 x2 x3 x4 : Value) (w : World) : Sem.run Try.prog (Instr.field 55 (.agg #[x0, x1, x2, x3, x4]) 4) w = .ok x4 w := rfl
/-! ### kit: what a call leaves, in few words -/
/-- 'w' stands at w' below block B, as a plain word, so that no rewriting takes it apart. -/
structure Bl (B : Nat) (w w' : World) : Prop where
  out : Below B w w'
theorem Bl.refl (w : World) : Bl w.heap.size w w := ⟨Below.refl _ _⟩
theorem Bl.alloc {w w' : World} (h : Bl w.heap.size w w') (o : Obj) : Bl w.heap.size w (w'.alloc o) := ⟨Below.alloc h.out (Below.size h.out) o⟩
theorem Bl.drew {B : Nat} {w w' : World} (h : Bl B w w') : Bl B w w'.drew := ⟨Below.drew h.out⟩
theorem Bl.drewN {B : Nat} {w w' : World} (h : Bl B w w') (n : Nat) : Bl B w (w'.drewN n) := ⟨pw_below_drewN h.out n⟩
theorem Bl.set {B : Nat} {w w' : World} {g j : Nat} {v : Value} (hg : B ≤ g) (h : Bl B w w') : Bl B w (w'.setCell ⟨g, j, none⟩ v) := ⟨Below.setCell h.out hg _⟩
theorem Bl.call {w W w1 : World} (hb : Below W.heap.size W w1) (h : Bl w.heap.size w W) : Bl w.heap.size w w1 := ⟨below_step h.out hb⟩
theorem Bl.le {w w' : World} (h : Bl w.heap.size w w') : w.heap.size ≤ w'.heap.size := Below.size h.out
theorem cell_call {W w1 : World} (hb : Below W.heap.size W w1) {a : Addr} {v : Value} (hc : W.cell? a = some v) : w1.cell? a = some v :=
  (hb.cell (World.block_lt_of_cell? W a hc)).trans hc
theorem bcell {W w1 : World} (hb : Below W.heap.size W w1) : (∀ b o, b < W.heap.size → w1.cell? ⟨b, o, none⟩ = W.cell? ⟨b, o, none⟩) ∧ (∀ b o, b < W.heap.size → w1.frozen? ⟨b, o, none⟩ = W.frozen? ⟨b, o, none⟩) :=
  ⟨fun b o h => hb.cell (p := ⟨b, o, none⟩) h, fun b o h => hb.frozen (p := ⟨b, o, none⟩) h⟩
theorem lt_call {W w1 : World} (hb : Below W.heap.size W w1) {n : Nat} (h : n < W.heap.size) : n < w1.heap.size := Nat.lt_of_lt_of_le h (Below.size hb)

end Go.Proofs.Ytcdgplkmahabiaa.M

/- The program's SpotRound returns what the reference's returns, for all arguments. -/
import Derived.Test.YtmcippkpgmehdaaRows
import Derived.Test.YtmcippkpgmehdaaLFnExactSpotRound
import Derived.WalkKit
import Derived.ProofKit
import Derived.OpenShut
import Derived.ShutString
import Derived.ChangeOld
import Derived.Below
import Derived.SizedLaws
import Derived.Lib.SmallJoins
import Derived.Test.YtmcippkpgmehdaaWSized
namespace Go.Proofs.Ytmcippkpgmehdaa.fnExactSpotRound
open Go.ChangeShapes Go.WideShapes Go.ChangeAt Go.RowKit Go.Joins
open Go.ChangeMaps (open_string shut_string)
open Go.Proofs.YtmcippkpgmehdaaW.PrintWords
set_option linter.unusedVariables false
theorem own : ownKnob Try.prog.godebug = none := by kernel_rfl
theorem cells38 : Try.prog.cellsOf 38 = 2 := by kernel_rfl
theorem cells3 : Try.prog.cellsOf 3 = 1 := by kernel_rfl
set_option maxRecDepth 100000 in
theorem lifted (os : Os) (started : os.Started) (H : Type) (enc : TypeId × Value → H) :
    ReturnsInHanded {} Try.checked os 14 .any (Rows.fnExactSpotRoundSpec.pre6 enc Try.prog Try.f14 Rows.fnExactSpotRoundRow.domain false) (Rows.fnExactSpotRoundSpec.post enc Try.prog Try.f14 false true false false) := by
  refine returnsInHanded_of_change_sized (C := Try.checked) own started (by kernel_rfl) Try.func14
    (ChangeSpec.witness6 (enc := enc) (C := Try.checked) false ⟨#[], #[.agg #[.int .i64 0, .int .i64 0], .agg #[.int .i64 0, .int .i64 0], .int .i64 0, .int .i64 0], []⟩ 8 (by kernel_rfl) (by kernel_rfl) (by kernel_rfl) (by kernel_rfl)) ?_
  intro W base args ds gs before hval0 hW hcnd hsz0 _
  have hsz : (DataW.weightsEach Try.prog (Try.f14.params.toList ++ Rows.fnExactSpotRoundSpec.plain.varTypes Try.prog) (ds ++ gs)).all (· ≤ reachBytes) = true := hsz0
  have hval : ∀ (j : Nat) t v, Try.f14.params[j]? = some t → args[j]? = some v → Value.okWide Try.prog W .any base t v := hval0
  have hW' := hW
  obtain ⟨p, q, hA0, hV, rfl, hfz, hnd⟩ := hW
  have hA : DataW.TrodAll enc Try.prog W 0 (fun _ => true) true Try.f14.params.toList args.toList ds p := hA0
  rw [Try.params14] at hA hval hsz
  obtain ⟨v0, vs0, d0, ds0, p0, q0, hargs, rfl, rfl, h0, r0⟩ := trodAll_cons hA
  obtain ⟨v1, vs1, d1, ds1, p1, q1, rfl, rfl, rfl, h1, r1⟩ := trodAll_cons r0
  obtain ⟨v2, vs2, d2, ds2, p2, q2, rfl, rfl, rfl, h2, r2⟩ := trodAll_cons r1
  obtain ⟨v3, vs3, d3, ds3, p3, q3, rfl, rfl, rfl, h3, r3⟩ := trodAll_cons r2
  obtain ⟨rfl, rfl, rfl⟩ := trodAll_nil r3
  obtain rfl : args = #[v0, v1, v2, v3] := by cases args; simp_all
  obtain ⟨rfl, rfl⟩ := trodVars_none hV
  obtain ⟨cx0, cy0, x0, y0, m0, rfl, rfl, rfl, hx0, hy0⟩ := open_agg2 Try.underlying38 (by kernel_rfl) cells38 (hval 0 38 v0 rfl rfl) h0
  obtain ⟨ax0, ex0, rfl, wx0⟩ := DataW.trod_int Try.underlying3 hx0
  obtain ⟨ay0, ey0, rfl, wy0⟩ := DataW.trod_int Try.underlying3 hy0
  simp at ex0 ey0
  subst ex0 ey0
  obtain ⟨cx1, cy1, x1, y1, m1, rfl, rfl, rfl, hx1, hy1⟩ := open_agg2 Try.underlying38 (by kernel_rfl) cells38 (hval 1 38 v1 rfl rfl) h1
  obtain ⟨ax1, ex1, rfl, wx1⟩ := DataW.trod_int Try.underlying3 hx1
  obtain ⟨ay1, ey1, rfl, wy1⟩ := DataW.trod_int Try.underlying3 hy1
  simp at ex1 ey1
  subst ex1 ey1
  obtain ⟨a2, rfl, rfl, rfl, w2⟩ := open_int Try.underlying3 (hval 2 3 v2 rfl rfl) h2
  obtain ⟨a3, rfl, rfl, rfl, w3⟩ := open_int Try.underlying3 (hval 3 3 v3 rfl rfl) h3
  clear hA0 hval0 hsz0 hsz
  refine (M.FnExactSpotRound_true ax0 ay0 ax1 ay1 a2 a3 W wx0 wy0 wx1 wy1 w2 w3).mono fun e W' ⟨he, bel⟩ => ?_
  subst he
  exact ⟨_, rfl, _, _, _, [], _, [], hW', trodAll_mk1 (shut_bool Try.underlying4 _), (trodAll_cons_mk (shut_agg2 (y0 := (.lit (.int .i64 ax0), [])) (y1 := (.lit (.int .i64 ay0), [])) Try.underlying38 (by kernel_rfl) cells38 (shut_int Try.underlying3 wx0) (shut_int Try.underlying3 wy0)) (trodAll_cons_mk (shut_agg2 (y0 := (.lit (.int .i64 ax1), [])) (y1 := (.lit (.int .i64 ay1), [])) Try.underlying38 (by kernel_rfl) cells38 (shut_int Try.underlying3 wx1) (shut_int Try.underlying3 wy1)) (trodAll_cons_mk (shut_int Try.underlying3 w2) (trodAll_cons_mk (shut_int Try.underlying3 w3) trodAll_mk0)))), rfl, bel.frame _, fun h => by cases h⟩
theorem over : Rows.fnExactSpotRoundRow.holds Try.pinned (OpenSpec.ofChange Rows.fnExactSpotRoundSpec) :=
  OpenClaim.holds_of_wide 14 Try.f14 rfl rfl rfl rfl rfl rfl rfl ⟨rfl, rfl, rfl, rfl, rfl⟩ rfl rfl rfl rfl rfl (by kernel_rfl) Try.func14 (by kernel_rfl)
    (of_decide_eq_true (by kernel_rfl)) (by unfold Func.isWrapper; first | (rw [if_pos (by decide +kernel)]; kernel_rfl) | (rw [if_neg (by decide +kernel)]; exact ⟨rfl, rfl⟩))
    (fun os started H enc _ => lifted os started H enc)
end Go.Proofs.Ytmcippkpgmehdaa.fnExactSpotRound
namespace Go.Proofs.Ytmcippkpgmehdaa
/-- The row, under a short name, for the claim. -/
theorem fnExactSpotRound_holds : Rows.FnExactSpotRoundSaid := fnExactSpotRound.over
#print axioms fnExactSpotRound_holds
end Go.Proofs.Ytmcippkpgmehdaa

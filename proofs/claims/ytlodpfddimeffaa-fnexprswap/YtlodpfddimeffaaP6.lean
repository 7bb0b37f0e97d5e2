import Derived.Test.YtlodpfddimeffaaP5
import Derived.Test.YtlodpfddimeffaaMh
import Derived.Test.YtlodpfddimeffaaNg
namespace Go.Proofs.Ytlodpfddimeffaa.M
open Go.RowKit Go.Proofs.YtlodpfddimeffaaW.PrintWords Go.Proofs.YtlodpfddimeffaaW.PrintLast Go.Proofs.YtlodpfddimeffaaW.PrintMore
attribute [local go_sem] max2_int min2_int max_two min_two max_three min_three max_four min_four
attribute [local go_sem high] eqA31
attribute [local go_sem] fld31_0 fld31_1 fld25_0 fld25_1 fld25_2 fld25_3
set_option linter.unusedVariables false
set_option linter.unusedSimpArgs false
/-! ### what is reckoned: both tell the same span -/
theorem span_op {f0 f1 f2 : Int} {s t : Int × Int} (hs : OkM s) (ht : OkM t) (hf : 1 ≤ f0 ∧ f0 ≤ 8) (hfine : fineM f0 f1 f2) {k : Nat} (hk : 110 ≤ k) :
  impl_Expr_span.op k f0 f1 f2 s.1 s.2 t.1 t.2 = some (opM f0 f1 f2 s t) := by
 unfold impl_Expr_span.op opM
 by_cases c1 : f0 = 1
 ·rw [if_pos c1, if_pos c1, (SpanOf_is f1 f2).1]
 rw [if_neg c1, if_neg c1]
 by_cases c2 : f0 = 2
 ·rw [if_pos c2, if_pos c2, (SpanNeg_is hs).1]; rfl
 rw [if_neg c2, if_neg c2]
 by_cases c3 : f0 = 3
 ·rw [if_pos c3, if_pos c3, (SpanRoot_is hs (by omega)).1]
 rw [if_neg c3, if_neg c3]
 by_cases c4 : f0 = 4
 ·unfold fineM at hfine
  rw [if_neg c1, if_pos c4] at hfine
  rw [if_pos c4, if_pos c4, (SineOfR_is (by omega) (by omega) (by omega)).1]
 rw [if_neg c4, if_neg c4]
 by_cases c5 : f0 = 5
 ·rw [if_pos c5, if_pos c5, (SpanAdd_is hs ht).1]
 rw [if_neg c5, if_neg c5]
 by_cases c6 : f0 = 6
 ·rw [if_pos c6, if_pos c6, (SpanSub_is hs ht).1]
 rw [if_neg c6, if_neg c6]
 by_cases c7 : f0 = 7
 ·rw [if_pos c7, if_pos c7, (SpanMul_is hs ht (by omega)).1]
 rw [if_neg c7, if_neg c7, (SpanDiv_is hs ht (by omega)).1]
theorem sspan_op {f0 f1 f2 i : Int} {l : List S25} {acc : List S31} (hi : ¬ i < (l.length : Int)) (hn : (acc.length : Int) = kidsN f0) (hs : OkM ((rd_T31 acc 0).f0, (rd_T31 acc 0).f1)) (ht : OkM ((rd_T31 acc 1).f0, (rd_T31 acc 1).f1)) (hf : 1 ≤ f0 ∧ f0 ≤ 8) (hfine : fineM f0 f1 f2) {k : Nat} (hk : 110 ≤ k) :
  spec_l31Span.l0 (k + 1) acc i f0 f1 f2 l = some (opM f0 f1 f2 ((rd_T31 acc 0).f0, (rd_T31 acc 0).f1) ((rd_T31 acc 1).f0, (rd_T31 acc 1).f1)) := by
 rw [spec_l31Span.l0, if_neg hi]
 unfold opM
 by_cases c1 : f0 = 1
 ·rw [if_pos c1, if_pos c1, (SpanOf_is f1 f2).2]; rfl
 rw [if_neg c1, if_neg c1]
 by_cases c2 : f0 = 2
 ·subst c2
  have n : 0 < (acc.length : Int) := by rw [hn]; decide
  have e := (SpanNeg_is hs).2
  dsimp only at e
  rw [if_pos rfl, if_pos rfl, if_pos n, e]; rfl
 rw [if_neg c2, if_neg c2]
 by_cases c3 : f0 = 3
 ·subst c3
  have n : 0 < (acc.length : Int) := by rw [hn]; decide
  have e := (SpanRoot_is hs (k := k) (by omega)).2
  dsimp only at e
  rw [if_pos rfl, if_pos rfl, if_pos n, e]; rfl
 rw [if_neg c3, if_neg c3]
 by_cases c4 : f0 = 4
 ·unfold fineM at hfine
  rw [if_neg c1, if_pos c4] at hfine
  rw [if_pos c4, if_pos c4, (SineOfR_is (by omega) (by omega) (by omega)).2]; rfl
 rw [if_neg c4, if_neg c4]
 have n2 : (acc.length : Int) = 2 := by rw [hn]; unfold kidsN; rw [if_neg (by omega), if_neg (by omega), if_pos (by omega)]
 have n0 : 0 < (acc.length : Int) := by omega
 have n1 : 1 < (acc.length : Int) := by omega
 by_cases c5 : f0 = 5
 ·have e := (SpanAdd_is hs ht).2
  dsimp only at e
  rw [if_pos c5, if_pos c5, if_pos n0, if_pos n1, e]; rfl
 rw [if_neg c5, if_neg c5]
 by_cases c6 : f0 = 6
 ·have e := (SpanSub_is hs ht).2
  dsimp only at e
  rw [if_pos c6, if_pos c6, if_pos n0, if_pos n1, e]; rfl
 rw [if_neg c6, if_neg c6]
 by_cases c7 : f0 = 7
 ·have e := (SpanMul_is hs ht (k := k) (by omega)).2
  dsimp only at e
  rw [if_pos c7, if_pos c7, if_pos n0, if_pos n1, e]; rfl
 ·have e := (SpanDiv_is hs ht (k := k) (by omega)).2
  dsimp only at e
  rw [if_neg c7, if_neg c7, if_pos n0, if_pos n1, e]; rfl
theorem ok00 : OkM (0, 0) := ⟨by decide, by decide, by decide⟩
theorem sspan_step {k : Nat} {acc : List S31} {i f0 f1 f2 : Int} {l : List S25} {x : S25} (h : i < (l.length : Int)) (h0 : 0 ≤ i) (hx : rd_T25 l i = x) (ha : acc.length < 8796093022208) (hr : spec_l31Span.f k x.f0 x.f1 x.f2 x.f3 = some (spanM x)) :
  spec_l31Span.l0 (k + 1) acc i f0 f1 f2 l = if (spanM x).2.2 = true then spec_l31Span.l0 k (acc ++ [⟨(spanM x).1, (spanM x).2.1⟩]) (wrap64 (i + 1)) f0 f1 f2 l else some (0, 0, false) := by
 rw [spec_l31Span.l0, if_pos h, if_pos h0, hx, hr]
 simp only [Option.bind_some]
 rw [if_pos ha]
theorem span_step0 {k : Nat} {s0 s1 t0 t1 f0 f1 f2 : Int} {l : List S25} {x : S25} (h : 0 < (l.length : Int)) (hx : rd_T25 l 0 = x) (hr : impl_Expr_span.f k x.f0 x.f1 x.f2 x.f3 = some (spanM x)) :
  impl_Expr_span.l0 (k + 1) s0 s1 t0 t1 0 f0 f1 f2 l = if (spanM x).2.2 = true then impl_Expr_span.l0 k (spanM x).1 (spanM x).2.1 t0 t1 1 f0 f1 f2 l else some (0, 0, false) := by
 rw [impl_Expr_span.l0, if_pos h, if_pos rfl, hx, hr]
 rfl
theorem span_step1 {k : Nat} {s0 s1 t0 t1 f0 f1 f2 : Int} {l : List S25} {x : S25} (h : 1 < (l.length : Int)) (hx : rd_T25 l 1 = x) (hr : impl_Expr_span.f k x.f0 x.f1 x.f2 x.f3 = some (spanM x)) :
  impl_Expr_span.l0 (k + 1) s0 s1 t0 t1 1 f0 f1 f2 l = if (spanM x).2.2 = true then impl_Expr_span.l0 k s0 s1 (spanM x).1 (spanM x).2.1 2 f0 f1 f2 l else some (0, 0, false) := by
 rw [impl_Expr_span.l0, if_pos h, if_neg (show ¬ ((1 : Int) = 0) by decide), if_pos rfl, hx, hr]
 rfl
theorem span_end {k : Nat} {s0 s1 t0 t1 i f0 f1 f2 : Int} {l : List S25} (h : ¬ i < (l.length : Int)) : impl_Expr_span.l0 (k + 1) s0 s1 t0 t1 i f0 f1 f2 l = impl_Expr_span.op k f0 f1 f2 s0 s1 t0 t1 := by
 rw [impl_Expr_span.l0, if_neg h]
theorem w_01 : wrap64 (0 + 1) = 1 := w64 (x := 0 + 1) (by omega) (by omega)
theorem w_11 : wrap64 (1 + 1) = 2 := w64 (x := 1 + 1) (by omega) (by omega)
theorem spans_is (N : Nat) : ∀ e : S25, nodes e ≤ N → sizeM e ≤ 15 → ∀ k, 20 * nodes e + 120 ≤ k → impl_Expr_span.f k e.f0 e.f1 e.f2 e.f3 = some (spanM e) ∧ spec_l31Span.f k e.f0 e.f1 e.f2 e.f3 = some (spanM e) := by
 induction N with
 | zero => intro e h; have := nodes_pos e; omega
 | succ N ih =>
  intro e h hs k hk
  obtain ⟨f0, f1, f2, l⟩ := e
  obtain ⟨hd, hz⟩ := ok_parts hs
  rw [hz] at hs
  rw [nodes] at h hk
  obtain ⟨k, rfl⟩ : ∃ q, k = q + 1 + 1 + 1 + 1 := ⟨k - 4, by omega⟩
  obtain ⟨hf, hn⟩ := kind_of hd.1
  show impl_Expr_span.f (k + 1 + 1 + 1 + 1) f0 f1 f2 l = _ ∧ spec_l31Span.f (k + 1 + 1 + 1 + 1) f0 f1 f2 l = _
  rw [impl_Expr_span.f, spec_l31Span.f]
  match l, hd, hz, hs, h, hk, hn with
  | [], hd, hz, hs, h, hk, hn =>
   rw [span_0, span_end (by simp)]
   exact ⟨span_op ok00 ok00 hf hd.2 (by omega), sspan_op (acc := []) (by simp) hd.1 ok00 ok00 hf hd.2 (by omega)⟩
  | [x], hd, hz, hs, h, hk, hn =>
   rw [nodesL, nodesL] at h hk
   rw [sizeL, sizeL] at hs
   have sx := sizeM_bd x
   obtain ⟨i1, i2⟩ := ih x (by omega) (by omega) (k + 1 + 1) (by omega)
   have ox := spanM_ok x
   rw [span_1, span_step0 (x := x) (by simp) rfl i1, sspan_step (x := x) (by simp) (by omega) rfl (by simp) i2, w_01]
   by_cases c : (spanM x).2.2 = true
   ·have o := ox.pair c
    rw [if_pos c, if_pos c, if_pos c, span_end (by simp)]
    exact ⟨span_op (s := ((spanM x).1, (spanM x).2.1)) (t := (0, 0)) o ok00 hf hd.2 (by omega), sspan_op (acc := [⟨(spanM x).1, (spanM x).2.1⟩]) (by simp) hd.1 o ok00 hf hd.2 (by omega)⟩
   ·rw [if_neg c, if_neg c, if_neg c]
    exact ⟨rfl, rfl⟩
  | [x, y], hd, hz, hs, h, hk, hn =>
   rw [nodesL, nodesL, nodesL] at h hk
   rw [sizeL, sizeL, sizeL] at hs
   have sx := sizeM_bd x
   have sy := sizeM_bd y
   have px := nodes_pos x
   have py := nodes_pos y
   obtain ⟨i1, i2⟩ := ih x (by omega) (by omega) (k + 1 + 1) (by omega)
   obtain ⟨j1, j2⟩ := ih y (by omega) (by omega) (k + 1) (by omega)
   have ox := spanM_ok x
   have oy := spanM_ok y
   rw [span_2, span_step0 (x := x) (by simp) rfl i1, sspan_step (x := x) (by simp) (by omega) rfl (by simp) i2, w_01]
   by_cases c : (spanM x).2.2 = true
   ·have o := ox.pair c
    rw [if_pos c, if_pos c, if_pos c, span_step1 (x := y) (by simp) rfl j1, sspan_step (x := y) (by simp) (by omega) rfl (by simp) j2, w_11]
    by_cases d : (spanM y).2.2 = true
    ·have o2 := oy.pair d
     rw [if_pos d, if_pos d, if_pos d, span_end (by simp)]
     exact ⟨span_op (s := ((spanM x).1, (spanM x).2.1)) (t := ((spanM y).1, (spanM y).2.1)) o o2 hf hd.2 (by omega), sspan_op (acc := [⟨(spanM x).1, (spanM x).2.1⟩, ⟨(spanM y).1, (spanM y).2.1⟩]) (by simp) hd.1 o o2 hf hd.2 (by omega)⟩
    ·rw [if_neg d, if_neg d, if_neg d]
     exact ⟨rfl, rfl⟩
   ·rw [if_neg c, if_neg c, if_neg c]
    exact ⟨rfl, rfl⟩
  | _ :: _ :: _ :: _, _, _, _, _, _, hn => simp at hn <;> omega
def exprR (e : S25) : Int × Int × Bool := if sizeM e ≤ 15 then spanM e else (0, 0, false)
theorem exprR_ok (e : S25) : okR (exprR e) := by
 unfold exprR
 split
 ·exact spanM_ok e
 ·exact .inr rfl
theorem ExprSpan_is {e : S25} (hN : (nodes e : Int) ≤ 1099511627776) {k : Nat} (hk : 20 * nodes e + 500 ≤ k) : impl_ExprSpan.f k e.f0 e.f1 e.f2 e.f3 = some (exprR e) ∧ spec_ExprSpan.f k e.f0 e.f1 e.f2 e.f3 = some (exprR e) := by
 unfold impl_ExprSpan.f spec_ExprSpan.f exprR
 rw [(ExprOk_is hN (by omega)).1, (ExprOk_is hN (by omega)).2]
 simp only [Option.bind_some]
 by_cases c : sizeM e ≤ 15
 ·have n := ok_few c
  obtain ⟨a, b⟩ := spans_is 15 e n c k (by omega)
  rw [decide_eq_true c, if_pos rfl, if_pos c, if_pos rfl, a, b]
  exact ⟨rfl, rfl⟩
 ·rw [decide_eq_false c, if_neg c]
  exact ⟨rfl, rfl⟩

end Go.Proofs.Ytlodpfddimeffaa.M

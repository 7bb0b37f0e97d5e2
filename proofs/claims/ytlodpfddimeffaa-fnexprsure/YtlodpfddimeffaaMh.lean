import Derived.Test.YtlodpfddimeffaaM0
import Derived.Test.YtlodpfddimeffaaMa
import Derived.Test.YtlodpfddimeffaaMc
import Derived.Test.YtlodpfddimeffaaMf
import Derived.Test.YtlodpfddimeffaaMg
namespace Go.Proofs.Ytlodpfddimeffaa.M
open Go.RowKit Go.Proofs.YtlodpfddimeffaaW.PrintWords Go.Proofs.YtlodpfddimeffaaW.PrintLast Go.Proofs.YtlodpfddimeffaaW.PrintMore
attribute [local go_sem] max2_int min2_int max_two min_two max_three min_three max_four min_four
attribute [local go_sem high] eqA31
attribute [local go_sem] fld31_0 fld31_1 fld25_0 fld25_1 fld25_2 fld25_3
set_option linter.unusedVariables false
set_option linter.unusedSimpArgs false

/-! ### impl_Expr_span: function 41 -/
def impl_Expr_span.op (k : Nat) (f0 f1 f2 s0 s1 t0 t1 : Int) : Option (Int × Int × Bool) :=
  if f0 = 1 then impl_SpanOf.f f1 f2 else if f0 = 2 then ((impl_SpanNeg.f s0 s1).bind fun b => some (b.1, b.2, true)) else if f0 = 3 then impl_SpanRoot.f k s0 s1 else if f0 = 4 then impl_SineOf.f k f1
  else if f0 = 5 then impl_SpanAdd.f s0 s1 t0 t1 else if f0 = 6 then impl_SpanSub.f s0 s1 t0 t1 else if f0 = 7 then impl_SpanMul.f k s0 s1 t0 t1 else impl_SpanDiv.f k s0 s1 t0 t1
mutual
def impl_Expr_span.l0 : Nat → Int → Int → Int → Int → Int → Int → Int → Int → List S25 → Option (Int × Int × Bool)
  | 0, _, _, _, _, _, _, _, _, _ => none
  | k + 1, s0, s1, t0, t1, i, f0, f1, f2, l => if i < (l.length : Int) then (if i = 0 then ((impl_Expr_span.f k (rd_T25 l 0).f0 (rd_T25 l 0).f1 (rd_T25 l 0).f2 (rd_T25 l 0).f3).bind fun b => if b.2.2 = true then impl_Expr_span.l0 k b.1 b.2.1 t0 t1 1 f0 f1 f2 l else some (0, 0, false))
      else if i = 1 then ((impl_Expr_span.f k (rd_T25 l 1).f0 (rd_T25 l 1).f1 (rd_T25 l 1).f2 (rd_T25 l 1).f3).bind fun b => if b.2.2 = true then impl_Expr_span.l0 k s0 s1 b.1 b.2.1 2 f0 f1 f2 l else some (0, 0, false)) else none) else impl_Expr_span.op k f0 f1 f2 s0 s1 t0 t1
def impl_Expr_span.f : Nat → Int → Int → Int → List S25 → Option (Int × Int × Bool)
  | 0, _, _, _, _ => none
  | k + 1, f0, f1, f2, l => impl_Expr_span.l0 k 0 0 0 0 0 f0 f1 f2 l
end
set_option maxHeartbeats 16000000 in
set_option maxRecDepth 100000 in
theorem impl_Expr_span.calls (k : Nat) : ∀ (a0_0 : Int) (a0_1 : Int) (a0_2 : Int) (A0_3 : Option Addr) (c0_3 : Nat) (l0_3 : List (S25)) (r1 : Int) (r2 : Int) (r3 : Bool) (w : World) (hr0_3 : Kd.C k25 w A0_3 l0_3.length l0_3) (hc0_3 : l0_3.length ≤ c0_3) (h : impl_Expr_span.f k a0_0 a0_1 a0_2 l0_3 = some (r1, r2, r3)),
  Calls Try.prog 41 #[.agg #[.int .i64 a0_0, .int .i64 a0_1, .int .i64 a0_2, .slice A0_3 l0_3.length c0_3]] w fun e w' => e = .returned (.tuple #[.agg #[.int .i64 r1, .int .i64 r2], .bool r3]) ∧ Below w.heap.size w w' := by
 induction k using Nat.strongRecOn with
 | _ k ih =>
 intro a0_0 a0_1 a0_2 A0_3 c0_3 l0_3 r1 r2 r3 w hr0_3 hc0_3 h
 cases k with
 | zero => exact absurd h (by simp [impl_Expr_span.f])
 | succ k =>
 simp only [impl_Expr_span.f] at h
 have hu25 := Try.underlying25
 have hu31 := Try.underlying31
 have hu74 := Try.underlying74
 have HR0_3 := Aside0.mk hr0_3
 have HC0_3 := Aside0.mk hc0_3
 clear hr0_3 hc0_3
 have HB := Aside0.mk (Below.refl w.heap.size w)
 have H' := Aside0.mk h
 clear h
 go_enter Try.func41, Try.ntmps41
 go_wp2_with (first | ((with_reducible refine gate_dst (N := 1) rfl ?_); refine bE 1 #[.int .i64 a0_0, .int .i64 a0_1, .int .i64 a0_2, .slice A0_3 l0_3.length c0_3] 25 ?_; intro g1 hg w1 hbox hb; have BK1 := Aside0.mk hbox; have GE1 := gw hg (hzs HB); replace HB := hbb (hzs HB) hb; clear hb hbox hg) | ((with_reducible refine gate_dst (N := 2) rfl ?_); refine bE 2 #[.int .i64 0, .int .i64 0] 31 ?_; intro g2 hg w2 hbox hb; have BK2 := Aside0.mk hbox; have GE2 := gw hg (hzs HB); have NB1_2 := nl hg (bk BK1); have NB2_1 := ng hg (bk BK1); replace BK1 := bb (bk BK1) hb; replace HB := hbb (hzs HB) hb; clear hb hbox hg) | ((with_reducible refine gate_dst (N := 4) rfl ?_); refine bE 4 #[.int .i64 0, .int .i64 0, .int .i64 0, .int .i64 0] 74 ?_; intro g4 hg w4 hbox hb; have BK4 := Aside0.mk hbox; have GE4 := gw hg (hzs HB); have NB1_4 := nl hg (bk BK1); have NB4_1 := ng hg (bk BK1); have NB2_4 := nl hg (bk BK2); have NB4_2 := ng hg (bk BK2); replace BK1 := bb (bk BK1) hb; replace BK2 := bb (bk BK2) hb; replace HB := hbb (hzs HB) hb; clear hb hbox hg; have hcz1 : w4.cell? ⟨g1, 0, none⟩ = some (.int .i64 a0_0) := (blk_cell BK1.out 0).trans rfl; have hfz1 := blk_frozen BK1.out 0; have hcz2 : w4.cell? ⟨g1, 1, none⟩ = some (.int .i64 a0_1) := (blk_cell BK1.out 1).trans rfl; have hfz2 := blk_frozen BK1.out 1; have hcz3 : w4.cell? ⟨g1, 2, none⟩ = some (.int .i64 a0_2) := (blk_cell BK1.out 2).trans rfl; have hfz3 := blk_frozen BK1.out 2; have hcz4 : w4.cell? ⟨g1, 3, none⟩ = some (.slice A0_3 l0_3.length c0_3) := (blk_cell BK1.out 3).trans rfl; have hfz4 := blk_frozen BK1.out 3))
 go_loopg [12] k (fun kq v12 w' => ∃ (i : Int) (s0 : Int) (s1 : Int) (t0 : Int) (t1 : Int), v12 = .int .i64 i ∧ Aside0 (impl_Expr_span.l0 kq s0 s1 t0 t1 i a0_0 a0_1 a0_2 l0_3 = some (r1, r2, r3)) ∧ Aside0 (kq ≤ k) ∧ Aside0 (w'.heap[g1]? = some (.cells #[.int .i64 a0_0, .int .i64 a0_1, .int .i64 a0_2, (.slice A0_3 l0_3.length c0_3)] 25 (0, 0))) ∧ Aside0 (w'.heap[g2]? = some (.cells #[.int .i64 0, .int .i64 0] 31 (0, 0))) ∧ Aside0 (w'.heap[g4]? = some (.cells #[.int .i64 s0, .int .i64 s1, .int .i64 t0, .int .i64 t1] 74 (0, 0))) ∧ Aside0 (Below w.heap.size w w'))
 case atStart => exact ⟨0, 0, 0, 0, 0, (by first | rfl | (simp; done) | (simp [*]; done)), H', ⟨Nat.le_refl _⟩, ⟨bk BK1⟩, ⟨bk BK2⟩, ⟨bk BK4⟩, ⟨hzs HB⟩⟩
 case round =>
  clear H'
  try clear hcz1 hfz1
  try clear hcz2 hfz2
  try clear hcz3 hfz3
  try clear hcz4 hfz4
  obtain ⟨i, s0, s1, t0, t1, rfl, HA, HK1, BK1, BK2, BK4, HB⟩ := hrel
  cases gk with
  | zero => exact absurd HA.out (by simp [impl_Expr_span.l0])
  | succ k1 =>
   have H := HA.out
   clear HA
   rw [impl_Expr_span.l0] at H
   by_cases c6 : i < (l0_3.length : Int)
   · rw [if_pos c6] at H
     have c6b0 : decide (i < (l0_3.length : Int)) = true := decide_eq_true c6
     by_cases e0 : i = 0
     · subst e0
       rw [if_pos rfl] at H
       replace H := Option.bind_eq_some_iff.mp H
       obtain ⟨⟨x, y, b⟩, A80, H⟩ := H
       have A8 := Aside0.mk A80
       clear A80
       cases b with
       | true =>
         rw [if_pos rfl] at H
         have H' := Aside0.mk H
         clear H
         have p9 : 0 ≤ (0 : Int) := (by omega)
         have q9 : 0 < (l0_3.length : Int) := c6
         have q9b : 0 < l0_3.length := (by omega)
         clear c6
         obtain ⟨ad9, A9_3, c9_3, e9, hx9_0, hx9_1, hx9_2, hx9_3, hl9_3, hi9_3⟩ := at_T25 HR0_3.out 0 p9 q9
         cases e9
         replace hx9_0 := (HB.out.cell (World.block_lt_of_cell? w _ hx9_0)).trans hx9_0
         replace hx9_1 := (HB.out.cell (World.block_lt_of_cell? w _ hx9_1)).trans hx9_1
         replace hx9_2 := (HB.out.cell (World.block_lt_of_cell? w _ hx9_2)).trans hx9_2
         replace hx9_3 := (HB.out.cell (World.block_lt_of_cell? w _ hx9_3)).trans hx9_3
         have HR9_3 := Aside0.mk hi9_3
         have HC9_3 := Aside0.mk hl9_3
         clear hi9_3 hl9_3
         (try rw [show ((0 : Int)).toNat = 0 from rfl] at hx9_0)
         (try rw [show 0 * 4 = 0 from rfl] at hx9_0)
         (try rw [Addr.add_zero'] at hx9_0)
         (try rw [show ((0 : Int)).toNat = 0 from rfl] at hx9_1)
         (try rw [show 0 * 4 = 0 from rfl] at hx9_1)
         (try rw [Addr.add_zero'] at hx9_1)
         (try rw [show ((0 : Int)).toNat = 0 from rfl] at hx9_2)
         (try rw [show 0 * 4 = 0 from rfl] at hx9_2)
         (try rw [Addr.add_zero'] at hx9_2)
         (try rw [show ((0 : Int)).toNat = 0 from rfl] at hx9_3)
         (try rw [show 0 * 4 = 0 from rfl] at hx9_3)
         (try rw [Addr.add_zero'] at hx9_3)
         replace p9 := eq_true p9
         replace q9 := eq_true q9
         replace q9b := eq_true q9b
         have hcz5 : wr.cell? ⟨g1, 0, none⟩ = some (.int .i64 a0_0) := (blk_cell BK1.out 0).trans rfl
         have hfz5 := blk_frozen BK1.out 0
         have hcz6 : wr.cell? ⟨g1, 1, none⟩ = some (.int .i64 a0_1) := (blk_cell BK1.out 1).trans rfl
         have hfz6 := blk_frozen BK1.out 1
         have hcz7 : wr.cell? ⟨g1, 2, none⟩ = some (.int .i64 a0_2) := (blk_cell BK1.out 2).trans rfl
         have hfz7 := blk_frozen BK1.out 2
         have hcz8 : wr.cell? ⟨g1, 3, none⟩ = some (.slice (some ad9) l0_3.length c0_3) := (blk_cell BK1.out 3).trans rfl
         have hfz8 := blk_frozen BK1.out 3
         have hcz9 : wr.cell? ⟨g2, 0, none⟩ = some (.int .i64 0) := (blk_cell BK2.out 0).trans rfl
         have hfz9 := blk_frozen BK2.out 0
         have hcz10 : wr.cell? ⟨g2, 1, none⟩ = some (.int .i64 0) := (blk_cell BK2.out 1).trans rfl
         have hfz10 := blk_frozen BK2.out 1
         have hcz11 : wr.cell? ⟨g4, 0, none⟩ = some (.int .i64 s0) := (blk_cell BK4.out 0).trans rfl
         have hfz11 := blk_frozen BK4.out 0
         have hcz12 : wr.cell? ⟨g4, 1, none⟩ = some (.int .i64 s1) := (blk_cell BK4.out 1).trans rfl
         have hfz12 := blk_frozen BK4.out 1
         have hcz13 : wr.cell? ⟨g4, 2, none⟩ = some (.int .i64 t0) := (blk_cell BK4.out 2).trans rfl
         have hfz13 := blk_frozen BK4.out 2
         have hcz14 : wr.cell? ⟨g4, 3, none⟩ = some (.int .i64 t1) := (blk_cell BK4.out 3).trans rfl
         have hfz14 := blk_frozen BK4.out 3
         have hnb15 := NB1_2.out
         have hnc15 := NB2_1.out
         have hnb16 := NB1_4.out
         have hnc16 := NB4_1.out
         have hnb17 := NB2_4.out
         have hnc17 := NB4_2.out
         go_wp2_with (first | ((with_reducible refine gate_dst (N := 6) rfl ?_); refine bE 6 #[.int .i64 0, .int .i64 0, .int .i64 0, .slice none 0 0] 25 ?_; intro g6 hg w6 hbox hb; have BK6 := Aside0.mk hbox; have GE6 := gw hg (hzs HB); have NB1_6 := nl hg (bk BK1); have NB6_1 := ng hg (bk BK1); have NB2_6 := nl hg (bk BK2); have NB6_2 := ng hg (bk BK2); have NB4_6 := nl hg (bk BK4); have NB6_4 := ng hg (bk BK4); replace BK1 := bb (bk BK1) hb; replace BK2 := bb (bk BK2) hb; replace BK4 := bb (bk BK4) hb; replace HB := hbb (hzs HB) hb; clear hb hbox hg; have hcz18 : w6.cell? ⟨g1, 0, none⟩ = some (.int .i64 a0_0) := (blk_cell BK1.out 0).trans rfl; have hfz18 := blk_frozen BK1.out 0; have hcz19 : w6.cell? ⟨g1, 1, none⟩ = some (.int .i64 a0_1) := (blk_cell BK1.out 1).trans rfl; have hfz19 := blk_frozen BK1.out 1; have hcz20 : w6.cell? ⟨g1, 2, none⟩ = some (.int .i64 a0_2) := (blk_cell BK1.out 2).trans rfl; have hfz20 := blk_frozen BK1.out 2; have hcz21 : w6.cell? ⟨g1, 3, none⟩ = some (.slice (some ad9) l0_3.length c0_3) := (blk_cell BK1.out 3).trans rfl; have hfz21 := blk_frozen BK1.out 3; have hcz22 : w6.cell? ⟨g2, 0, none⟩ = some (.int .i64 0) := (blk_cell BK2.out 0).trans rfl; have hfz22 := blk_frozen BK2.out 0; have hcz23 : w6.cell? ⟨g2, 1, none⟩ = some (.int .i64 0) := (blk_cell BK2.out 1).trans rfl; have hfz23 := blk_frozen BK2.out 1; have hcz24 : w6.cell? ⟨g4, 0, none⟩ = some (.int .i64 s0) := (blk_cell BK4.out 0).trans rfl; have hfz24 := blk_frozen BK4.out 0; have hcz25 : w6.cell? ⟨g4, 1, none⟩ = some (.int .i64 s1) := (blk_cell BK4.out 1).trans rfl; have hfz25 := blk_frozen BK4.out 1; have hcz26 : w6.cell? ⟨g4, 2, none⟩ = some (.int .i64 t0) := (blk_cell BK4.out 2).trans rfl; have hfz26 := blk_frozen BK4.out 2; have hcz27 : w6.cell? ⟨g4, 3, none⟩ = some (.int .i64 t1) := (blk_cell BK4.out 3).trans rfl; have hfz27 := blk_frozen BK4.out 3; have hcz28 : w6.cell? ⟨g6, 0, none⟩ = some (.int .i64 0) := (blk_cell BK6.out 0).trans rfl; have hfz28 := blk_frozen BK6.out 0; have hcz29 : w6.cell? ⟨g6, 1, none⟩ = some (.int .i64 0) := (blk_cell BK6.out 1).trans rfl; have hfz29 := blk_frozen BK6.out 1; have hcz30 : w6.cell? ⟨g6, 2, none⟩ = some (.int .i64 0) := (blk_cell BK6.out 2).trans rfl; have hfz30 := blk_frozen BK6.out 2; have hcz31 : w6.cell? ⟨g6, 3, none⟩ = some (.slice none 0 0) := (blk_cell BK6.out 3).trans rfl; have hfz31 := blk_frozen BK6.out 3; have hnb32 := NB1_6.out; have hnc32 := NB6_1.out; have hnb33 := NB2_6.out; have hnc33 := NB6_2.out; have hnb34 := NB4_6.out; have hnc34 := NB6_4.out) | ((with_reducible refine gate_callee (f := 41) rfl ?_); refine gL 19 Try.func41 #[.agg #[.int .i64 ((rd_T25 l0_3 0).f0), .int .i64 ((rd_T25 l0_3 0).f1), .int .i64 ((rd_T25 l0_3 0).f2), .slice A9_3 ((rd_T25 l0_3 0).f3).length c9_3]] ?_; (with_reducible refine (ih k1 (by have := HK1.out; omega) ((rd_T25 l0_3 0).f0) ((rd_T25 l0_3 0).f1) ((rd_T25 l0_3 0).f2) _ _ ((rd_T25 l0_3 0).f3) x y true _ ?side1 ?side2 A8.out).mono ?_); (case side1 => exact Kd.C_below HR9_3.out (hzs HB)); (case side2 => exact HC9_3.out); rintro e w8 ⟨rfl, hb⟩; refine ⟨_, rfl, ?_⟩; replace BK1 := bb (bk1 BK1 NB1_6) hb; replace BK2 := bb (bk1 BK2 NB2_6) hb; replace BK4 := bb (bk1 BK4 NB4_6) hb; clear BK6; replace HB := hbb (hzs HB) hb; clear hb) | ((with_reducible refine gate_dst (N := 7) rfl ?_); refine bE 7 #[.int .i64 0, .int .i64 0] 31 ?_; intro g7 hg w7 hbox hb; have BK7 := Aside0.mk hbox; have GE7 := gw hg (hzs HB); have NB1_7 := nl hg (bk BK1); have NB7_1 := ng hg (bk BK1); have NB2_7 := nl hg (bk BK2); have NB7_2 := ng hg (bk BK2); have NB4_7 := nl hg (bk BK4); have NB7_4 := ng hg (bk BK4); replace BK1 := bb (bk BK1) hb; replace BK2 := bb (bk BK2) hb; replace BK4 := bb (bk BK4) hb; replace HB := hbb (hzs HB) hb; clear hb hbox hg; have hcz35 : w7.cell? ⟨g1, 0, none⟩ = some (.int .i64 a0_0) := (blk_cell BK1.out 0).trans rfl; have hfz35 := blk_frozen BK1.out 0; have hcz36 : w7.cell? ⟨g1, 1, none⟩ = some (.int .i64 a0_1) := (blk_cell BK1.out 1).trans rfl; have hfz36 := blk_frozen BK1.out 1; have hcz37 : w7.cell? ⟨g1, 2, none⟩ = some (.int .i64 a0_2) := (blk_cell BK1.out 2).trans rfl; have hfz37 := blk_frozen BK1.out 2; have hcz38 : w7.cell? ⟨g1, 3, none⟩ = some (.slice (some ad9) l0_3.length c0_3) := (blk_cell BK1.out 3).trans rfl; have hfz38 := blk_frozen BK1.out 3; have hcz39 : w7.cell? ⟨g2, 0, none⟩ = some (.int .i64 0) := (blk_cell BK2.out 0).trans rfl; have hfz39 := blk_frozen BK2.out 0; have hcz40 : w7.cell? ⟨g2, 1, none⟩ = some (.int .i64 0) := (blk_cell BK2.out 1).trans rfl; have hfz40 := blk_frozen BK2.out 1; have hcz41 : w7.cell? ⟨g4, 0, none⟩ = some (.int .i64 s0) := (blk_cell BK4.out 0).trans rfl; have hfz41 := blk_frozen BK4.out 0; have hcz42 : w7.cell? ⟨g4, 1, none⟩ = some (.int .i64 s1) := (blk_cell BK4.out 1).trans rfl; have hfz42 := blk_frozen BK4.out 1; have hcz43 : w7.cell? ⟨g4, 2, none⟩ = some (.int .i64 t0) := (blk_cell BK4.out 2).trans rfl; have hfz43 := blk_frozen BK4.out 2; have hcz44 : w7.cell? ⟨g4, 3, none⟩ = some (.int .i64 t1) := (blk_cell BK4.out 3).trans rfl; have hfz44 := blk_frozen BK4.out 3; have hcz45 : w7.cell? ⟨g7, 0, none⟩ = some (.int .i64 0) := (blk_cell BK7.out 0).trans rfl; have hfz45 := blk_frozen BK7.out 0; have hcz46 : w7.cell? ⟨g7, 1, none⟩ = some (.int .i64 0) := (blk_cell BK7.out 1).trans rfl; have hfz46 := blk_frozen BK7.out 1; have hnb47 := NB1_7.out; have hnc47 := NB7_1.out; have hnb48 := NB2_7.out; have hnc48 := NB7_2.out; have hnb49 := NB4_7.out; have hnc49 := NB7_4.out))
         go_roundg k1
         case measure => have := HK1.out; omega
         case rel => exact ⟨1, x, y, t0, t1, (by first | rfl | (simp; done) | (simp [*]; done) | decide), H', ⟨by have := HK1.out; omega⟩, ⟨bk2 BK1 NB1_7 NB1_4⟩, ⟨bk2 BK2 NB2_7 NB2_4⟩, ⟨(by repeat (first | exact BK4.out | (with_reducible first | refine blk_drewN ?_ _ | refine blk_drew ?_ | refine blk_alloc ?_ _ | refine blk_far ?_ NB4_7.out _) | refine blk_put (cs := #[.int .i64 x, .int .i64 s1, .int .i64 t0, .int .i64 t1]) ?_ 1 _ rfl | refine blk_put (cs := #[.int .i64 s0, .int .i64 s1, .int .i64 t0, .int .i64 t1]) ?_ 0 _ rfl))⟩, ⟨hzs HB⟩⟩
       | false =>
         rw [if_neg (show ¬ (false = true) by decide)] at H
         simp only [Option.some.injEq, Prod.mk.injEq] at H
         obtain ⟨rfl, rfl, rfl⟩ := H
         have p9 : 0 ≤ (0 : Int) := (by omega)
         have q9 : 0 < (l0_3.length : Int) := c6
         have q9b : 0 < l0_3.length := (by omega)
         clear c6
         obtain ⟨ad9, A9_3, c9_3, e9, hx9_0, hx9_1, hx9_2, hx9_3, hl9_3, hi9_3⟩ := at_T25 HR0_3.out 0 p9 q9
         cases e9
         replace hx9_0 := (HB.out.cell (World.block_lt_of_cell? w _ hx9_0)).trans hx9_0
         replace hx9_1 := (HB.out.cell (World.block_lt_of_cell? w _ hx9_1)).trans hx9_1
         replace hx9_2 := (HB.out.cell (World.block_lt_of_cell? w _ hx9_2)).trans hx9_2
         replace hx9_3 := (HB.out.cell (World.block_lt_of_cell? w _ hx9_3)).trans hx9_3
         have HR9_3 := Aside0.mk hi9_3
         have HC9_3 := Aside0.mk hl9_3
         clear hi9_3 hl9_3
         (try rw [show ((0 : Int)).toNat = 0 from rfl] at hx9_0)
         (try rw [show 0 * 4 = 0 from rfl] at hx9_0)
         (try rw [Addr.add_zero'] at hx9_0)
         (try rw [show ((0 : Int)).toNat = 0 from rfl] at hx9_1)
         (try rw [show 0 * 4 = 0 from rfl] at hx9_1)
         (try rw [Addr.add_zero'] at hx9_1)
         (try rw [show ((0 : Int)).toNat = 0 from rfl] at hx9_2)
         (try rw [show 0 * 4 = 0 from rfl] at hx9_2)
         (try rw [Addr.add_zero'] at hx9_2)
         (try rw [show ((0 : Int)).toNat = 0 from rfl] at hx9_3)
         (try rw [show 0 * 4 = 0 from rfl] at hx9_3)
         (try rw [Addr.add_zero'] at hx9_3)
         replace p9 := eq_true p9
         replace q9 := eq_true q9
         replace q9b := eq_true q9b
         have hcz50 : wr.cell? ⟨g1, 0, none⟩ = some (.int .i64 a0_0) := (blk_cell BK1.out 0).trans rfl
         have hfz50 := blk_frozen BK1.out 0
         have hcz51 : wr.cell? ⟨g1, 1, none⟩ = some (.int .i64 a0_1) := (blk_cell BK1.out 1).trans rfl
         have hfz51 := blk_frozen BK1.out 1
         have hcz52 : wr.cell? ⟨g1, 2, none⟩ = some (.int .i64 a0_2) := (blk_cell BK1.out 2).trans rfl
         have hfz52 := blk_frozen BK1.out 2
         have hcz53 : wr.cell? ⟨g1, 3, none⟩ = some (.slice (some ad9) l0_3.length c0_3) := (blk_cell BK1.out 3).trans rfl
         have hfz53 := blk_frozen BK1.out 3
         have hcz54 : wr.cell? ⟨g2, 0, none⟩ = some (.int .i64 0) := (blk_cell BK2.out 0).trans rfl
         have hfz54 := blk_frozen BK2.out 0
         have hcz55 : wr.cell? ⟨g2, 1, none⟩ = some (.int .i64 0) := (blk_cell BK2.out 1).trans rfl
         have hfz55 := blk_frozen BK2.out 1
         have hcz56 : wr.cell? ⟨g4, 0, none⟩ = some (.int .i64 s0) := (blk_cell BK4.out 0).trans rfl
         have hfz56 := blk_frozen BK4.out 0
         have hcz57 : wr.cell? ⟨g4, 1, none⟩ = some (.int .i64 s1) := (blk_cell BK4.out 1).trans rfl
         have hfz57 := blk_frozen BK4.out 1
         have hcz58 : wr.cell? ⟨g4, 2, none⟩ = some (.int .i64 t0) := (blk_cell BK4.out 2).trans rfl
         have hfz58 := blk_frozen BK4.out 2
         have hcz59 : wr.cell? ⟨g4, 3, none⟩ = some (.int .i64 t1) := (blk_cell BK4.out 3).trans rfl
         have hfz59 := blk_frozen BK4.out 3
         have hnb60 := NB1_2.out
         have hnc60 := NB2_1.out
         have hnb61 := NB1_4.out
         have hnc61 := NB4_1.out
         have hnb62 := NB2_4.out
         have hnc62 := NB4_2.out
         go_wp2_with (first | ((with_reducible refine gate_dst (N := 6) rfl ?_); refine bE 6 #[.int .i64 0, .int .i64 0, .int .i64 0, .slice none 0 0] 25 ?_; intro g6 hg w6 hbox hb; have BK6 := Aside0.mk hbox; have GE6 := gw hg (hzs HB); have NB1_6 := nl hg (bk BK1); have NB6_1 := ng hg (bk BK1); have NB2_6 := nl hg (bk BK2); have NB6_2 := ng hg (bk BK2); have NB4_6 := nl hg (bk BK4); have NB6_4 := ng hg (bk BK4); replace BK1 := bb (bk BK1) hb; replace BK2 := bb (bk BK2) hb; replace BK4 := bb (bk BK4) hb; replace HB := hbb (hzs HB) hb; clear hb hbox hg; have hcz63 : w6.cell? ⟨g1, 0, none⟩ = some (.int .i64 a0_0) := (blk_cell BK1.out 0).trans rfl; have hfz63 := blk_frozen BK1.out 0; have hcz64 : w6.cell? ⟨g1, 1, none⟩ = some (.int .i64 a0_1) := (blk_cell BK1.out 1).trans rfl; have hfz64 := blk_frozen BK1.out 1; have hcz65 : w6.cell? ⟨g1, 2, none⟩ = some (.int .i64 a0_2) := (blk_cell BK1.out 2).trans rfl; have hfz65 := blk_frozen BK1.out 2; have hcz66 : w6.cell? ⟨g1, 3, none⟩ = some (.slice (some ad9) l0_3.length c0_3) := (blk_cell BK1.out 3).trans rfl; have hfz66 := blk_frozen BK1.out 3; have hcz67 : w6.cell? ⟨g2, 0, none⟩ = some (.int .i64 0) := (blk_cell BK2.out 0).trans rfl; have hfz67 := blk_frozen BK2.out 0; have hcz68 : w6.cell? ⟨g2, 1, none⟩ = some (.int .i64 0) := (blk_cell BK2.out 1).trans rfl; have hfz68 := blk_frozen BK2.out 1; have hcz69 : w6.cell? ⟨g4, 0, none⟩ = some (.int .i64 s0) := (blk_cell BK4.out 0).trans rfl; have hfz69 := blk_frozen BK4.out 0; have hcz70 : w6.cell? ⟨g4, 1, none⟩ = some (.int .i64 s1) := (blk_cell BK4.out 1).trans rfl; have hfz70 := blk_frozen BK4.out 1; have hcz71 : w6.cell? ⟨g4, 2, none⟩ = some (.int .i64 t0) := (blk_cell BK4.out 2).trans rfl; have hfz71 := blk_frozen BK4.out 2; have hcz72 : w6.cell? ⟨g4, 3, none⟩ = some (.int .i64 t1) := (blk_cell BK4.out 3).trans rfl; have hfz72 := blk_frozen BK4.out 3; have hcz73 : w6.cell? ⟨g6, 0, none⟩ = some (.int .i64 0) := (blk_cell BK6.out 0).trans rfl; have hfz73 := blk_frozen BK6.out 0; have hcz74 : w6.cell? ⟨g6, 1, none⟩ = some (.int .i64 0) := (blk_cell BK6.out 1).trans rfl; have hfz74 := blk_frozen BK6.out 1; have hcz75 : w6.cell? ⟨g6, 2, none⟩ = some (.int .i64 0) := (blk_cell BK6.out 2).trans rfl; have hfz75 := blk_frozen BK6.out 2; have hcz76 : w6.cell? ⟨g6, 3, none⟩ = some (.slice none 0 0) := (blk_cell BK6.out 3).trans rfl; have hfz76 := blk_frozen BK6.out 3; have hnb77 := NB1_6.out; have hnc77 := NB6_1.out; have hnb78 := NB2_6.out; have hnc78 := NB6_2.out; have hnb79 := NB4_6.out; have hnc79 := NB6_4.out) | ((with_reducible refine gate_callee (f := 41) rfl ?_); refine gL 19 Try.func41 #[.agg #[.int .i64 ((rd_T25 l0_3 0).f0), .int .i64 ((rd_T25 l0_3 0).f1), .int .i64 ((rd_T25 l0_3 0).f2), .slice A9_3 ((rd_T25 l0_3 0).f3).length c9_3]] ?_; (with_reducible refine (ih k1 (by have := HK1.out; omega) ((rd_T25 l0_3 0).f0) ((rd_T25 l0_3 0).f1) ((rd_T25 l0_3 0).f2) _ _ ((rd_T25 l0_3 0).f3) x y false _ ?side1 ?side2 A8.out).mono ?_); (case side1 => exact Kd.C_below HR9_3.out (hzs HB)); (case side2 => exact HC9_3.out); rintro e w8 ⟨rfl, hb⟩; refine ⟨_, rfl, ?_⟩; replace BK1 := bb (bk1 BK1 NB1_6) hb; replace BK2 := bb (bk1 BK2 NB2_6) hb; replace BK4 := bb (bk1 BK4 NB4_6) hb; clear BK6; replace HB := hbb (hzs HB) hb; clear hb) | ((with_reducible refine gate_dst (N := 7) rfl ?_); refine bE 7 #[.int .i64 0, .int .i64 0] 31 ?_; intro g7 hg w7 hbox hb; have BK7 := Aside0.mk hbox; have GE7 := gw hg (hzs HB); have NB1_7 := nl hg (bk BK1); have NB7_1 := ng hg (bk BK1); have NB2_7 := nl hg (bk BK2); have NB7_2 := ng hg (bk BK2); have NB4_7 := nl hg (bk BK4); have NB7_4 := ng hg (bk BK4); replace BK1 := bb (bk BK1) hb; replace BK2 := bb (bk BK2) hb; replace BK4 := bb (bk BK4) hb; replace HB := hbb (hzs HB) hb; clear hb hbox hg; have hcz80 : w7.cell? ⟨g1, 0, none⟩ = some (.int .i64 a0_0) := (blk_cell BK1.out 0).trans rfl; have hfz80 := blk_frozen BK1.out 0; have hcz81 : w7.cell? ⟨g1, 1, none⟩ = some (.int .i64 a0_1) := (blk_cell BK1.out 1).trans rfl; have hfz81 := blk_frozen BK1.out 1; have hcz82 : w7.cell? ⟨g1, 2, none⟩ = some (.int .i64 a0_2) := (blk_cell BK1.out 2).trans rfl; have hfz82 := blk_frozen BK1.out 2; have hcz83 : w7.cell? ⟨g1, 3, none⟩ = some (.slice (some ad9) l0_3.length c0_3) := (blk_cell BK1.out 3).trans rfl; have hfz83 := blk_frozen BK1.out 3; have hcz84 : w7.cell? ⟨g2, 0, none⟩ = some (.int .i64 0) := (blk_cell BK2.out 0).trans rfl; have hfz84 := blk_frozen BK2.out 0; have hcz85 : w7.cell? ⟨g2, 1, none⟩ = some (.int .i64 0) := (blk_cell BK2.out 1).trans rfl; have hfz85 := blk_frozen BK2.out 1; have hcz86 : w7.cell? ⟨g4, 0, none⟩ = some (.int .i64 s0) := (blk_cell BK4.out 0).trans rfl; have hfz86 := blk_frozen BK4.out 0; have hcz87 : w7.cell? ⟨g4, 1, none⟩ = some (.int .i64 s1) := (blk_cell BK4.out 1).trans rfl; have hfz87 := blk_frozen BK4.out 1; have hcz88 : w7.cell? ⟨g4, 2, none⟩ = some (.int .i64 t0) := (blk_cell BK4.out 2).trans rfl; have hfz88 := blk_frozen BK4.out 2; have hcz89 : w7.cell? ⟨g4, 3, none⟩ = some (.int .i64 t1) := (blk_cell BK4.out 3).trans rfl; have hfz89 := blk_frozen BK4.out 3; have hcz90 : w7.cell? ⟨g7, 0, none⟩ = some (.int .i64 0) := (blk_cell BK7.out 0).trans rfl; have hfz90 := blk_frozen BK7.out 0; have hcz91 : w7.cell? ⟨g7, 1, none⟩ = some (.int .i64 0) := (blk_cell BK7.out 1).trans rfl; have hfz91 := blk_frozen BK7.out 1; have hnb92 := NB1_7.out; have hnc92 := NB7_1.out; have hnb93 := NB2_7.out; have hnc93 := NB7_2.out; have hnb94 := NB4_7.out; have hnc94 := NB7_4.out))
         refine bodyPost_ret (results_ct rfl _ _ g2 31 #[.int .i64 0, .int .i64 0] (0, 0) _ rfl (by repeat (first | exact BK2.out | (with_reducible first | refine blk_drewN ?_ _ | refine blk_drew ?_ | refine blk_alloc ?_ _ | refine blk_far ?_ NB2_7.out _) | refine blk_put (cs := #[.int .i64 0, .int .i64 0]) ?_ 1 _ rfl | refine blk_put (cs := #[.int .i64 0, .int .i64 0]) ?_ 0 _ rfl)) Try.underlying31 rfl (by kernel_rfl)) rfl ?_
         exact ⟨by first | rfl | (simp [errW_none, errW_some] <;> rfl) | (simp [*, errW_none, errW_some] <;> rfl), hzs HB⟩
     · rw [if_neg e0] at H
       by_cases e1 : i = 1
       · subst e1
         rw [if_pos (show (1 : Int) = 1 from rfl)] at H
         replace H := Option.bind_eq_some_iff.mp H
         obtain ⟨⟨x, y, b⟩, A80, H⟩ := H
         have A8 := Aside0.mk A80
         clear A80
         cases b with
         | true =>
           rw [if_pos rfl] at H
           have H' := Aside0.mk H
           clear H
           have p9 : 0 ≤ (1 : Int) := (by omega)
           have q9 : 1 < (l0_3.length : Int) := c6
           have q9b : 1 < l0_3.length := (by omega)
           clear c6
           obtain ⟨ad9, A9_3, c9_3, e9, hx9_0, hx9_1, hx9_2, hx9_3, hl9_3, hi9_3⟩ := at_T25 HR0_3.out 1 p9 q9
           cases e9
           replace hx9_0 := (HB.out.cell (World.block_lt_of_cell? w _ hx9_0)).trans hx9_0
           replace hx9_1 := (HB.out.cell (World.block_lt_of_cell? w _ hx9_1)).trans hx9_1
           replace hx9_2 := (HB.out.cell (World.block_lt_of_cell? w _ hx9_2)).trans hx9_2
           replace hx9_3 := (HB.out.cell (World.block_lt_of_cell? w _ hx9_3)).trans hx9_3
           have HR9_3 := Aside0.mk hi9_3
           have HC9_3 := Aside0.mk hl9_3
           clear hi9_3 hl9_3
           (try simp only [show (1 : Int).toNat = 1 from rfl, Nat.reduceMul, Nat.reduceEqDiff, Go.Addr.add, ↓reduceIte] at hx9_0)
           (try rw [show ((1 : Int)).toNat = 1 from rfl] at hx9_0)
           (try rw [show 1 * 4 = 4 from rfl] at hx9_0)
           (try rw [Addr.add_zero'] at hx9_0)
           (try simp only [show (1 : Int).toNat = 1 from rfl, Nat.reduceMul, Nat.reduceEqDiff, Go.Addr.add, ↓reduceIte] at hx9_1)
           (try rw [show ((1 : Int)).toNat = 1 from rfl] at hx9_1)
           (try rw [show 1 * 4 = 4 from rfl] at hx9_1)
           (try rw [Addr.add_zero'] at hx9_1)
           (try simp only [show (1 : Int).toNat = 1 from rfl, Nat.reduceMul, Nat.reduceEqDiff, Go.Addr.add, ↓reduceIte] at hx9_2)
           (try rw [show ((1 : Int)).toNat = 1 from rfl] at hx9_2)
           (try rw [show 1 * 4 = 4 from rfl] at hx9_2)
           (try rw [Addr.add_zero'] at hx9_2)
           (try simp only [show (1 : Int).toNat = 1 from rfl, Nat.reduceMul, Nat.reduceEqDiff, Go.Addr.add, ↓reduceIte] at hx9_3)
           (try rw [show ((1 : Int)).toNat = 1 from rfl] at hx9_3)
           (try rw [show 1 * 4 = 4 from rfl] at hx9_3)
           (try rw [Addr.add_zero'] at hx9_3)
           replace p9 := eq_true p9
           replace q9 := eq_true q9
           replace q9b := eq_true q9b
           have hcz95 : wr.cell? ⟨g1, 0, none⟩ = some (.int .i64 a0_0) := (blk_cell BK1.out 0).trans rfl
           have hfz95 := blk_frozen BK1.out 0
           have hcz96 : wr.cell? ⟨g1, 1, none⟩ = some (.int .i64 a0_1) := (blk_cell BK1.out 1).trans rfl
           have hfz96 := blk_frozen BK1.out 1
           have hcz97 : wr.cell? ⟨g1, 2, none⟩ = some (.int .i64 a0_2) := (blk_cell BK1.out 2).trans rfl
           have hfz97 := blk_frozen BK1.out 2
           have hcz98 : wr.cell? ⟨g1, 3, none⟩ = some (.slice (some ad9) l0_3.length c0_3) := (blk_cell BK1.out 3).trans rfl
           have hfz98 := blk_frozen BK1.out 3
           have hcz99 : wr.cell? ⟨g2, 0, none⟩ = some (.int .i64 0) := (blk_cell BK2.out 0).trans rfl
           have hfz99 := blk_frozen BK2.out 0
           have hcz100 : wr.cell? ⟨g2, 1, none⟩ = some (.int .i64 0) := (blk_cell BK2.out 1).trans rfl
           have hfz100 := blk_frozen BK2.out 1
           have hcz101 : wr.cell? ⟨g4, 0, none⟩ = some (.int .i64 s0) := (blk_cell BK4.out 0).trans rfl
           have hfz101 := blk_frozen BK4.out 0
           have hcz102 : wr.cell? ⟨g4, 1, none⟩ = some (.int .i64 s1) := (blk_cell BK4.out 1).trans rfl
           have hfz102 := blk_frozen BK4.out 1
           have hcz103 : wr.cell? ⟨g4, 2, none⟩ = some (.int .i64 t0) := (blk_cell BK4.out 2).trans rfl
           have hfz103 := blk_frozen BK4.out 2
           have hcz104 : wr.cell? ⟨g4, 3, none⟩ = some (.int .i64 t1) := (blk_cell BK4.out 3).trans rfl
           have hfz104 := blk_frozen BK4.out 3
           have hnb105 := NB1_2.out
           have hnc105 := NB2_1.out
           have hnb106 := NB1_4.out
           have hnc106 := NB4_1.out
           have hnb107 := NB2_4.out
           have hnc107 := NB4_2.out
           go_wp2_with (first | ((with_reducible refine gate_dst (N := 6) rfl ?_); refine bE 6 #[.int .i64 0, .int .i64 0, .int .i64 0, .slice none 0 0] 25 ?_; intro g6 hg w6 hbox hb; have BK6 := Aside0.mk hbox; have GE6 := gw hg (hzs HB); have NB1_6 := nl hg (bk BK1); have NB6_1 := ng hg (bk BK1); have NB2_6 := nl hg (bk BK2); have NB6_2 := ng hg (bk BK2); have NB4_6 := nl hg (bk BK4); have NB6_4 := ng hg (bk BK4); replace BK1 := bb (bk BK1) hb; replace BK2 := bb (bk BK2) hb; replace BK4 := bb (bk BK4) hb; replace HB := hbb (hzs HB) hb; clear hb hbox hg; have hcz108 : w6.cell? ⟨g1, 0, none⟩ = some (.int .i64 a0_0) := (blk_cell BK1.out 0).trans rfl; have hfz108 := blk_frozen BK1.out 0; have hcz109 : w6.cell? ⟨g1, 1, none⟩ = some (.int .i64 a0_1) := (blk_cell BK1.out 1).trans rfl; have hfz109 := blk_frozen BK1.out 1; have hcz110 : w6.cell? ⟨g1, 2, none⟩ = some (.int .i64 a0_2) := (blk_cell BK1.out 2).trans rfl; have hfz110 := blk_frozen BK1.out 2; have hcz111 : w6.cell? ⟨g1, 3, none⟩ = some (.slice (some ad9) l0_3.length c0_3) := (blk_cell BK1.out 3).trans rfl; have hfz111 := blk_frozen BK1.out 3; have hcz112 : w6.cell? ⟨g2, 0, none⟩ = some (.int .i64 0) := (blk_cell BK2.out 0).trans rfl; have hfz112 := blk_frozen BK2.out 0; have hcz113 : w6.cell? ⟨g2, 1, none⟩ = some (.int .i64 0) := (blk_cell BK2.out 1).trans rfl; have hfz113 := blk_frozen BK2.out 1; have hcz114 : w6.cell? ⟨g4, 0, none⟩ = some (.int .i64 s0) := (blk_cell BK4.out 0).trans rfl; have hfz114 := blk_frozen BK4.out 0; have hcz115 : w6.cell? ⟨g4, 1, none⟩ = some (.int .i64 s1) := (blk_cell BK4.out 1).trans rfl; have hfz115 := blk_frozen BK4.out 1; have hcz116 : w6.cell? ⟨g4, 2, none⟩ = some (.int .i64 t0) := (blk_cell BK4.out 2).trans rfl; have hfz116 := blk_frozen BK4.out 2; have hcz117 : w6.cell? ⟨g4, 3, none⟩ = some (.int .i64 t1) := (blk_cell BK4.out 3).trans rfl; have hfz117 := blk_frozen BK4.out 3; have hcz118 : w6.cell? ⟨g6, 0, none⟩ = some (.int .i64 0) := (blk_cell BK6.out 0).trans rfl; have hfz118 := blk_frozen BK6.out 0; have hcz119 : w6.cell? ⟨g6, 1, none⟩ = some (.int .i64 0) := (blk_cell BK6.out 1).trans rfl; have hfz119 := blk_frozen BK6.out 1; have hcz120 : w6.cell? ⟨g6, 2, none⟩ = some (.int .i64 0) := (blk_cell BK6.out 2).trans rfl; have hfz120 := blk_frozen BK6.out 2; have hcz121 : w6.cell? ⟨g6, 3, none⟩ = some (.slice none 0 0) := (blk_cell BK6.out 3).trans rfl; have hfz121 := blk_frozen BK6.out 3; have hnb122 := NB1_6.out; have hnc122 := NB6_1.out; have hnb123 := NB2_6.out; have hnc123 := NB6_2.out; have hnb124 := NB4_6.out; have hnc124 := NB6_4.out) | ((with_reducible refine gate_callee (f := 41) rfl ?_); refine gL 19 Try.func41 #[.agg #[.int .i64 ((rd_T25 l0_3 1).f0), .int .i64 ((rd_T25 l0_3 1).f1), .int .i64 ((rd_T25 l0_3 1).f2), .slice A9_3 ((rd_T25 l0_3 1).f3).length c9_3]] ?_; (with_reducible refine (ih k1 (by have := HK1.out; omega) ((rd_T25 l0_3 1).f0) ((rd_T25 l0_3 1).f1) ((rd_T25 l0_3 1).f2) _ _ ((rd_T25 l0_3 1).f3) x y true _ ?side1 ?side2 A8.out).mono ?_); (case side1 => exact Kd.C_below HR9_3.out (hzs HB)); (case side2 => exact HC9_3.out); rintro e w8 ⟨rfl, hb⟩; refine ⟨_, rfl, ?_⟩; replace BK1 := bb (bk1 BK1 NB1_6) hb; replace BK2 := bb (bk1 BK2 NB2_6) hb; replace BK4 := bb (bk1 BK4 NB4_6) hb; clear BK6; replace HB := hbb (hzs HB) hb; clear hb) | ((with_reducible refine gate_dst (N := 7) rfl ?_); refine bE 7 #[.int .i64 0, .int .i64 0] 31 ?_; intro g7 hg w7 hbox hb; have BK7 := Aside0.mk hbox; have GE7 := gw hg (hzs HB); have NB1_7 := nl hg (bk BK1); have NB7_1 := ng hg (bk BK1); have NB2_7 := nl hg (bk BK2); have NB7_2 := ng hg (bk BK2); have NB4_7 := nl hg (bk BK4); have NB7_4 := ng hg (bk BK4); replace BK1 := bb (bk BK1) hb; replace BK2 := bb (bk BK2) hb; replace BK4 := bb (bk BK4) hb; replace HB := hbb (hzs HB) hb; clear hb hbox hg; have hcz125 : w7.cell? ⟨g1, 0, none⟩ = some (.int .i64 a0_0) := (blk_cell BK1.out 0).trans rfl; have hfz125 := blk_frozen BK1.out 0; have hcz126 : w7.cell? ⟨g1, 1, none⟩ = some (.int .i64 a0_1) := (blk_cell BK1.out 1).trans rfl; have hfz126 := blk_frozen BK1.out 1; have hcz127 : w7.cell? ⟨g1, 2, none⟩ = some (.int .i64 a0_2) := (blk_cell BK1.out 2).trans rfl; have hfz127 := blk_frozen BK1.out 2; have hcz128 : w7.cell? ⟨g1, 3, none⟩ = some (.slice (some ad9) l0_3.length c0_3) := (blk_cell BK1.out 3).trans rfl; have hfz128 := blk_frozen BK1.out 3; have hcz129 : w7.cell? ⟨g2, 0, none⟩ = some (.int .i64 0) := (blk_cell BK2.out 0).trans rfl; have hfz129 := blk_frozen BK2.out 0; have hcz130 : w7.cell? ⟨g2, 1, none⟩ = some (.int .i64 0) := (blk_cell BK2.out 1).trans rfl; have hfz130 := blk_frozen BK2.out 1; have hcz131 : w7.cell? ⟨g4, 0, none⟩ = some (.int .i64 s0) := (blk_cell BK4.out 0).trans rfl; have hfz131 := blk_frozen BK4.out 0; have hcz132 : w7.cell? ⟨g4, 1, none⟩ = some (.int .i64 s1) := (blk_cell BK4.out 1).trans rfl; have hfz132 := blk_frozen BK4.out 1; have hcz133 : w7.cell? ⟨g4, 2, none⟩ = some (.int .i64 t0) := (blk_cell BK4.out 2).trans rfl; have hfz133 := blk_frozen BK4.out 2; have hcz134 : w7.cell? ⟨g4, 3, none⟩ = some (.int .i64 t1) := (blk_cell BK4.out 3).trans rfl; have hfz134 := blk_frozen BK4.out 3; have hcz135 : w7.cell? ⟨g7, 0, none⟩ = some (.int .i64 0) := (blk_cell BK7.out 0).trans rfl; have hfz135 := blk_frozen BK7.out 0; have hcz136 : w7.cell? ⟨g7, 1, none⟩ = some (.int .i64 0) := (blk_cell BK7.out 1).trans rfl; have hfz136 := blk_frozen BK7.out 1; have hnb137 := NB1_7.out; have hnc137 := NB7_1.out; have hnb138 := NB2_7.out; have hnc138 := NB7_2.out; have hnb139 := NB4_7.out; have hnc139 := NB7_4.out))
           go_roundg k1
           case measure => have := HK1.out; omega
           case rel => exact ⟨2, s0, s1, x, y, (by first | rfl | (simp; done) | (simp [*]; done) | decide), H', ⟨by have := HK1.out; omega⟩, ⟨bk2 BK1 NB1_7 NB1_4⟩, ⟨bk2 BK2 NB2_7 NB2_4⟩, ⟨(by repeat (first | exact BK4.out | (with_reducible first | refine blk_drewN ?_ _ | refine blk_drew ?_ | refine blk_alloc ?_ _ | refine blk_far ?_ NB4_7.out _) | refine blk_put (cs := #[.int .i64 s0, .int .i64 s1, .int .i64 x, .int .i64 t1]) ?_ 3 _ rfl | refine blk_put (cs := #[.int .i64 s0, .int .i64 s1, .int .i64 t0, .int .i64 t1]) ?_ 2 _ rfl))⟩, ⟨hzs HB⟩⟩
         | false =>
           rw [if_neg (show ¬ (false = true) by decide)] at H
           simp only [Option.some.injEq, Prod.mk.injEq] at H
           obtain ⟨rfl, rfl, rfl⟩ := H
           have p9 : 0 ≤ (1 : Int) := (by omega)
           have q9 : 1 < (l0_3.length : Int) := c6
           have q9b : 1 < l0_3.length := (by omega)
           clear c6
           obtain ⟨ad9, A9_3, c9_3, e9, hx9_0, hx9_1, hx9_2, hx9_3, hl9_3, hi9_3⟩ := at_T25 HR0_3.out 1 p9 q9
           cases e9
           replace hx9_0 := (HB.out.cell (World.block_lt_of_cell? w _ hx9_0)).trans hx9_0
           replace hx9_1 := (HB.out.cell (World.block_lt_of_cell? w _ hx9_1)).trans hx9_1
           replace hx9_2 := (HB.out.cell (World.block_lt_of_cell? w _ hx9_2)).trans hx9_2
           replace hx9_3 := (HB.out.cell (World.block_lt_of_cell? w _ hx9_3)).trans hx9_3
           have HR9_3 := Aside0.mk hi9_3
           have HC9_3 := Aside0.mk hl9_3
           clear hi9_3 hl9_3
           (try simp only [show (1 : Int).toNat = 1 from rfl, Nat.reduceMul, Nat.reduceEqDiff, Go.Addr.add, ↓reduceIte] at hx9_0)
           (try rw [show ((1 : Int)).toNat = 1 from rfl] at hx9_0)
           (try rw [show 1 * 4 = 4 from rfl] at hx9_0)
           (try rw [Addr.add_zero'] at hx9_0)
           (try simp only [show (1 : Int).toNat = 1 from rfl, Nat.reduceMul, Nat.reduceEqDiff, Go.Addr.add, ↓reduceIte] at hx9_1)
           (try rw [show ((1 : Int)).toNat = 1 from rfl] at hx9_1)
           (try rw [show 1 * 4 = 4 from rfl] at hx9_1)
           (try rw [Addr.add_zero'] at hx9_1)
           (try simp only [show (1 : Int).toNat = 1 from rfl, Nat.reduceMul, Nat.reduceEqDiff, Go.Addr.add, ↓reduceIte] at hx9_2)
           (try rw [show ((1 : Int)).toNat = 1 from rfl] at hx9_2)
           (try rw [show 1 * 4 = 4 from rfl] at hx9_2)
           (try rw [Addr.add_zero'] at hx9_2)
           (try simp only [show (1 : Int).toNat = 1 from rfl, Nat.reduceMul, Nat.reduceEqDiff, Go.Addr.add, ↓reduceIte] at hx9_3)
           (try rw [show ((1 : Int)).toNat = 1 from rfl] at hx9_3)
           (try rw [show 1 * 4 = 4 from rfl] at hx9_3)
           (try rw [Addr.add_zero'] at hx9_3)
           replace p9 := eq_true p9
           replace q9 := eq_true q9
           replace q9b := eq_true q9b
           have hcz140 : wr.cell? ⟨g1, 0, none⟩ = some (.int .i64 a0_0) := (blk_cell BK1.out 0).trans rfl
           have hfz140 := blk_frozen BK1.out 0
           have hcz141 : wr.cell? ⟨g1, 1, none⟩ = some (.int .i64 a0_1) := (blk_cell BK1.out 1).trans rfl
           have hfz141 := blk_frozen BK1.out 1
           have hcz142 : wr.cell? ⟨g1, 2, none⟩ = some (.int .i64 a0_2) := (blk_cell BK1.out 2).trans rfl
           have hfz142 := blk_frozen BK1.out 2
           have hcz143 : wr.cell? ⟨g1, 3, none⟩ = some (.slice (some ad9) l0_3.length c0_3) := (blk_cell BK1.out 3).trans rfl
           have hfz143 := blk_frozen BK1.out 3
           have hcz144 : wr.cell? ⟨g2, 0, none⟩ = some (.int .i64 0) := (blk_cell BK2.out 0).trans rfl
           have hfz144 := blk_frozen BK2.out 0
           have hcz145 : wr.cell? ⟨g2, 1, none⟩ = some (.int .i64 0) := (blk_cell BK2.out 1).trans rfl
           have hfz145 := blk_frozen BK2.out 1
           have hcz146 : wr.cell? ⟨g4, 0, none⟩ = some (.int .i64 s0) := (blk_cell BK4.out 0).trans rfl
           have hfz146 := blk_frozen BK4.out 0
           have hcz147 : wr.cell? ⟨g4, 1, none⟩ = some (.int .i64 s1) := (blk_cell BK4.out 1).trans rfl
           have hfz147 := blk_frozen BK4.out 1
           have hcz148 : wr.cell? ⟨g4, 2, none⟩ = some (.int .i64 t0) := (blk_cell BK4.out 2).trans rfl
           have hfz148 := blk_frozen BK4.out 2
           have hcz149 : wr.cell? ⟨g4, 3, none⟩ = some (.int .i64 t1) := (blk_cell BK4.out 3).trans rfl
           have hfz149 := blk_frozen BK4.out 3
           have hnb150 := NB1_2.out
           have hnc150 := NB2_1.out
           have hnb151 := NB1_4.out
           have hnc151 := NB4_1.out
           have hnb152 := NB2_4.out
           have hnc152 := NB4_2.out
           go_wp2_with (first | ((with_reducible refine gate_dst (N := 6) rfl ?_); refine bE 6 #[.int .i64 0, .int .i64 0, .int .i64 0, .slice none 0 0] 25 ?_; intro g6 hg w6 hbox hb; have BK6 := Aside0.mk hbox; have GE6 := gw hg (hzs HB); have NB1_6 := nl hg (bk BK1); have NB6_1 := ng hg (bk BK1); have NB2_6 := nl hg (bk BK2); have NB6_2 := ng hg (bk BK2); have NB4_6 := nl hg (bk BK4); have NB6_4 := ng hg (bk BK4); replace BK1 := bb (bk BK1) hb; replace BK2 := bb (bk BK2) hb; replace BK4 := bb (bk BK4) hb; replace HB := hbb (hzs HB) hb; clear hb hbox hg; have hcz153 : w6.cell? ⟨g1, 0, none⟩ = some (.int .i64 a0_0) := (blk_cell BK1.out 0).trans rfl; have hfz153 := blk_frozen BK1.out 0; have hcz154 : w6.cell? ⟨g1, 1, none⟩ = some (.int .i64 a0_1) := (blk_cell BK1.out 1).trans rfl; have hfz154 := blk_frozen BK1.out 1; have hcz155 : w6.cell? ⟨g1, 2, none⟩ = some (.int .i64 a0_2) := (blk_cell BK1.out 2).trans rfl; have hfz155 := blk_frozen BK1.out 2; have hcz156 : w6.cell? ⟨g1, 3, none⟩ = some (.slice (some ad9) l0_3.length c0_3) := (blk_cell BK1.out 3).trans rfl; have hfz156 := blk_frozen BK1.out 3; have hcz157 : w6.cell? ⟨g2, 0, none⟩ = some (.int .i64 0) := (blk_cell BK2.out 0).trans rfl; have hfz157 := blk_frozen BK2.out 0; have hcz158 : w6.cell? ⟨g2, 1, none⟩ = some (.int .i64 0) := (blk_cell BK2.out 1).trans rfl; have hfz158 := blk_frozen BK2.out 1; have hcz159 : w6.cell? ⟨g4, 0, none⟩ = some (.int .i64 s0) := (blk_cell BK4.out 0).trans rfl; have hfz159 := blk_frozen BK4.out 0; have hcz160 : w6.cell? ⟨g4, 1, none⟩ = some (.int .i64 s1) := (blk_cell BK4.out 1).trans rfl; have hfz160 := blk_frozen BK4.out 1; have hcz161 : w6.cell? ⟨g4, 2, none⟩ = some (.int .i64 t0) := (blk_cell BK4.out 2).trans rfl; have hfz161 := blk_frozen BK4.out 2; have hcz162 : w6.cell? ⟨g4, 3, none⟩ = some (.int .i64 t1) := (blk_cell BK4.out 3).trans rfl; have hfz162 := blk_frozen BK4.out 3; have hcz163 : w6.cell? ⟨g6, 0, none⟩ = some (.int .i64 0) := (blk_cell BK6.out 0).trans rfl; have hfz163 := blk_frozen BK6.out 0; have hcz164 : w6.cell? ⟨g6, 1, none⟩ = some (.int .i64 0) := (blk_cell BK6.out 1).trans rfl; have hfz164 := blk_frozen BK6.out 1; have hcz165 : w6.cell? ⟨g6, 2, none⟩ = some (.int .i64 0) := (blk_cell BK6.out 2).trans rfl; have hfz165 := blk_frozen BK6.out 2; have hcz166 : w6.cell? ⟨g6, 3, none⟩ = some (.slice none 0 0) := (blk_cell BK6.out 3).trans rfl; have hfz166 := blk_frozen BK6.out 3; have hnb167 := NB1_6.out; have hnc167 := NB6_1.out; have hnb168 := NB2_6.out; have hnc168 := NB6_2.out; have hnb169 := NB4_6.out; have hnc169 := NB6_4.out) | ((with_reducible refine gate_callee (f := 41) rfl ?_); refine gL 19 Try.func41 #[.agg #[.int .i64 ((rd_T25 l0_3 1).f0), .int .i64 ((rd_T25 l0_3 1).f1), .int .i64 ((rd_T25 l0_3 1).f2), .slice A9_3 ((rd_T25 l0_3 1).f3).length c9_3]] ?_; (with_reducible refine (ih k1 (by have := HK1.out; omega) ((rd_T25 l0_3 1).f0) ((rd_T25 l0_3 1).f1) ((rd_T25 l0_3 1).f2) _ _ ((rd_T25 l0_3 1).f3) x y false _ ?side1 ?side2 A8.out).mono ?_); (case side1 => exact Kd.C_below HR9_3.out (hzs HB)); (case side2 => exact HC9_3.out); rintro e w8 ⟨rfl, hb⟩; refine ⟨_, rfl, ?_⟩; replace BK1 := bb (bk1 BK1 NB1_6) hb; replace BK2 := bb (bk1 BK2 NB2_6) hb; replace BK4 := bb (bk1 BK4 NB4_6) hb; clear BK6; replace HB := hbb (hzs HB) hb; clear hb) | ((with_reducible refine gate_dst (N := 7) rfl ?_); refine bE 7 #[.int .i64 0, .int .i64 0] 31 ?_; intro g7 hg w7 hbox hb; have BK7 := Aside0.mk hbox; have GE7 := gw hg (hzs HB); have NB1_7 := nl hg (bk BK1); have NB7_1 := ng hg (bk BK1); have NB2_7 := nl hg (bk BK2); have NB7_2 := ng hg (bk BK2); have NB4_7 := nl hg (bk BK4); have NB7_4 := ng hg (bk BK4); replace BK1 := bb (bk BK1) hb; replace BK2 := bb (bk BK2) hb; replace BK4 := bb (bk BK4) hb; replace HB := hbb (hzs HB) hb; clear hb hbox hg; have hcz170 : w7.cell? ⟨g1, 0, none⟩ = some (.int .i64 a0_0) := (blk_cell BK1.out 0).trans rfl; have hfz170 := blk_frozen BK1.out 0; have hcz171 : w7.cell? ⟨g1, 1, none⟩ = some (.int .i64 a0_1) := (blk_cell BK1.out 1).trans rfl; have hfz171 := blk_frozen BK1.out 1; have hcz172 : w7.cell? ⟨g1, 2, none⟩ = some (.int .i64 a0_2) := (blk_cell BK1.out 2).trans rfl; have hfz172 := blk_frozen BK1.out 2; have hcz173 : w7.cell? ⟨g1, 3, none⟩ = some (.slice (some ad9) l0_3.length c0_3) := (blk_cell BK1.out 3).trans rfl; have hfz173 := blk_frozen BK1.out 3; have hcz174 : w7.cell? ⟨g2, 0, none⟩ = some (.int .i64 0) := (blk_cell BK2.out 0).trans rfl; have hfz174 := blk_frozen BK2.out 0; have hcz175 : w7.cell? ⟨g2, 1, none⟩ = some (.int .i64 0) := (blk_cell BK2.out 1).trans rfl; have hfz175 := blk_frozen BK2.out 1; have hcz176 : w7.cell? ⟨g4, 0, none⟩ = some (.int .i64 s0) := (blk_cell BK4.out 0).trans rfl; have hfz176 := blk_frozen BK4.out 0; have hcz177 : w7.cell? ⟨g4, 1, none⟩ = some (.int .i64 s1) := (blk_cell BK4.out 1).trans rfl; have hfz177 := blk_frozen BK4.out 1; have hcz178 : w7.cell? ⟨g4, 2, none⟩ = some (.int .i64 t0) := (blk_cell BK4.out 2).trans rfl; have hfz178 := blk_frozen BK4.out 2; have hcz179 : w7.cell? ⟨g4, 3, none⟩ = some (.int .i64 t1) := (blk_cell BK4.out 3).trans rfl; have hfz179 := blk_frozen BK4.out 3; have hcz180 : w7.cell? ⟨g7, 0, none⟩ = some (.int .i64 0) := (blk_cell BK7.out 0).trans rfl; have hfz180 := blk_frozen BK7.out 0; have hcz181 : w7.cell? ⟨g7, 1, none⟩ = some (.int .i64 0) := (blk_cell BK7.out 1).trans rfl; have hfz181 := blk_frozen BK7.out 1; have hnb182 := NB1_7.out; have hnc182 := NB7_1.out; have hnb183 := NB2_7.out; have hnc183 := NB7_2.out; have hnb184 := NB4_7.out; have hnc184 := NB7_4.out))
           refine bodyPost_ret (results_ct rfl _ _ g2 31 #[.int .i64 0, .int .i64 0] (0, 0) _ rfl (by repeat (first | exact BK2.out | (with_reducible first | refine blk_drewN ?_ _ | refine blk_drew ?_ | refine blk_alloc ?_ _ | refine blk_far ?_ NB2_7.out _) | refine blk_put (cs := #[.int .i64 0, .int .i64 0]) ?_ 1 _ rfl | refine blk_put (cs := #[.int .i64 0, .int .i64 0]) ?_ 0 _ rfl)) Try.underlying31 rfl (by kernel_rfl)) rfl ?_
           exact ⟨by first | rfl | (simp [errW_none, errW_some] <;> rfl) | (simp [*, errW_none, errW_some] <;> rfl), hzs HB⟩
       · rw [if_neg e1] at H
         exact absurd H (by simp)
   · rw [if_neg c6] at H
     have c6b0 : decide (i < (l0_3.length : Int)) = false := decide_eq_false c6
     clear c6
     unfold impl_Expr_span.op at H
     by_cases d1 : a0_0 = 1
     · rw [if_pos d1] at H
       have d1b0 : (a0_0 == 1) = true := beq_iff_eq.mpr d1
       have d1b1 : (a0_0 != 1) = false := bne_eq_false_iff_eq.mpr d1
       clear d1
       have A9 := Aside0.mk H
       clear H
       have hcz185 : wr.cell? ⟨g1, 0, none⟩ = some (.int .i64 a0_0) := (blk_cell BK1.out 0).trans rfl
       have hfz185 := blk_frozen BK1.out 0
       have hcz186 : wr.cell? ⟨g1, 1, none⟩ = some (.int .i64 a0_1) := (blk_cell BK1.out 1).trans rfl
       have hfz186 := blk_frozen BK1.out 1
       have hcz187 : wr.cell? ⟨g1, 2, none⟩ = some (.int .i64 a0_2) := (blk_cell BK1.out 2).trans rfl
       have hfz187 := blk_frozen BK1.out 2
       have hcz188 : wr.cell? ⟨g1, 3, none⟩ = some (.slice A0_3 l0_3.length c0_3) := (blk_cell BK1.out 3).trans rfl
       have hfz188 := blk_frozen BK1.out 3
       have hcz189 : wr.cell? ⟨g2, 0, none⟩ = some (.int .i64 0) := (blk_cell BK2.out 0).trans rfl
       have hfz189 := blk_frozen BK2.out 0
       have hcz190 : wr.cell? ⟨g2, 1, none⟩ = some (.int .i64 0) := (blk_cell BK2.out 1).trans rfl
       have hfz190 := blk_frozen BK2.out 1
       have hcz191 : wr.cell? ⟨g4, 0, none⟩ = some (.int .i64 s0) := (blk_cell BK4.out 0).trans rfl
       have hfz191 := blk_frozen BK4.out 0
       have hcz192 : wr.cell? ⟨g4, 1, none⟩ = some (.int .i64 s1) := (blk_cell BK4.out 1).trans rfl
       have hfz192 := blk_frozen BK4.out 1
       have hcz193 : wr.cell? ⟨g4, 2, none⟩ = some (.int .i64 t0) := (blk_cell BK4.out 2).trans rfl
       have hfz193 := blk_frozen BK4.out 2
       have hcz194 : wr.cell? ⟨g4, 3, none⟩ = some (.int .i64 t1) := (blk_cell BK4.out 3).trans rfl
       have hfz194 := blk_frozen BK4.out 3
       have hnb195 := NB1_2.out
       have hnc195 := NB2_1.out
       have hnb196 := NB1_4.out
       have hnc196 := NB4_1.out
       have hnb197 := NB2_4.out
       have hnc197 := NB4_2.out
       go_wp2_with (first | (go_at_call 59; (with_reducible refine (impl_SpanOf.calls a0_1 a0_2 r1 r2 r3 _ A9.out).mono ?_); rintro e w9 ⟨rfl, hb⟩; replace BK1 := bb (bk BK1) hb; replace BK2 := bb (bk BK2) hb; replace BK4 := bb (bk BK4) hb; replace HB := hbb (hzs HB) hb; clear hb; have hcz198 : w9.cell? ⟨g2, 0, none⟩ = some (.int .i64 0) := (blk_cell BK2.out 0).trans rfl; have hfz198 := blk_frozen BK2.out 0; have hcz199 : w9.cell? ⟨g2, 1, none⟩ = some (.int .i64 0) := (blk_cell BK2.out 1).trans rfl; have hfz199 := blk_frozen BK2.out 1))
       refine bodyPost_ret (results_ct rfl _ _ g2 31 #[.int .i64 r1, .int .i64 r2] (0, 0) _ rfl (bkp BK2) Try.underlying31 rfl (by kernel_rfl)) rfl ?_
       exact ⟨by first | rfl | (simp [errW_none, errW_some] <;> rfl) | (simp [*, errW_none, errW_some] <;> rfl), hzs HB⟩
     · rw [if_neg d1] at H
       have d1b0 : (a0_0 == 1) = false := beq_eq_false_iff_ne.mpr d1
       have d1b1 : (a0_0 != 1) = true := bne_iff_ne.mpr d1
       clear d1
       by_cases d2 : a0_0 = 2
       · rw [if_pos d2] at H
         have d2b0 : (a0_0 == 2) = true := beq_iff_eq.mpr d2
         have d2b1 : (a0_0 != 2) = false := bne_eq_false_iff_eq.mpr d2
         clear d2
         replace H := Option.bind_eq_some_iff.mp H
         obtain ⟨⟨x, y⟩, A90, H⟩ := H
         have A9 := Aside0.mk A90
         clear A90
         simp only [Option.some.injEq, Prod.mk.injEq] at H
         obtain ⟨rfl, rfl, rfl⟩ := H
         have hcz200 : wr.cell? ⟨g1, 0, none⟩ = some (.int .i64 a0_0) := (blk_cell BK1.out 0).trans rfl
         have hfz200 := blk_frozen BK1.out 0
         have hcz201 : wr.cell? ⟨g1, 1, none⟩ = some (.int .i64 a0_1) := (blk_cell BK1.out 1).trans rfl
         have hfz201 := blk_frozen BK1.out 1
         have hcz202 : wr.cell? ⟨g1, 2, none⟩ = some (.int .i64 a0_2) := (blk_cell BK1.out 2).trans rfl
         have hfz202 := blk_frozen BK1.out 2
         have hcz203 : wr.cell? ⟨g1, 3, none⟩ = some (.slice A0_3 l0_3.length c0_3) := (blk_cell BK1.out 3).trans rfl
         have hfz203 := blk_frozen BK1.out 3
         have hcz204 : wr.cell? ⟨g2, 0, none⟩ = some (.int .i64 0) := (blk_cell BK2.out 0).trans rfl
         have hfz204 := blk_frozen BK2.out 0
         have hcz205 : wr.cell? ⟨g2, 1, none⟩ = some (.int .i64 0) := (blk_cell BK2.out 1).trans rfl
         have hfz205 := blk_frozen BK2.out 1
         have hcz206 : wr.cell? ⟨g4, 0, none⟩ = some (.int .i64 s0) := (blk_cell BK4.out 0).trans rfl
         have hfz206 := blk_frozen BK4.out 0
         have hcz207 : wr.cell? ⟨g4, 1, none⟩ = some (.int .i64 s1) := (blk_cell BK4.out 1).trans rfl
         have hfz207 := blk_frozen BK4.out 1
         have hcz208 : wr.cell? ⟨g4, 2, none⟩ = some (.int .i64 t0) := (blk_cell BK4.out 2).trans rfl
         have hfz208 := blk_frozen BK4.out 2
         have hcz209 : wr.cell? ⟨g4, 3, none⟩ = some (.int .i64 t1) := (blk_cell BK4.out 3).trans rfl
         have hfz209 := blk_frozen BK4.out 3
         have hnb210 := NB1_2.out
         have hnc210 := NB2_1.out
         have hnb211 := NB1_4.out
         have hnc211 := NB4_1.out
         have hnb212 := NB2_4.out
         have hnc212 := NB4_2.out
         go_wp2_with (first | (go_at_call 34; (with_reducible refine (impl_SpanNeg.calls s0 s1 x y _ A9.out).mono ?_); rintro e w9 ⟨rfl, hb⟩; replace BK1 := bb (bk BK1) hb; replace BK2 := bb (bk BK2) hb; replace BK4 := bb (bk BK4) hb; replace HB := hbb (hzs HB) hb; clear hb; have hcz213 : w9.cell? ⟨g2, 0, none⟩ = some (.int .i64 0) := (blk_cell BK2.out 0).trans rfl; have hfz213 := blk_frozen BK2.out 0; have hcz214 : w9.cell? ⟨g2, 1, none⟩ = some (.int .i64 0) := (blk_cell BK2.out 1).trans rfl; have hfz214 := blk_frozen BK2.out 1))
         refine bodyPost_ret (results_ct rfl _ _ g2 31 #[.int .i64 x, .int .i64 y] (0, 0) _ rfl (bkp BK2) Try.underlying31 rfl (by kernel_rfl)) rfl ?_
         exact ⟨by first | rfl | (simp [errW_none, errW_some] <;> rfl) | (simp [*, errW_none, errW_some] <;> rfl), hzs HB⟩
       · rw [if_neg d2] at H
         have d2b0 : (a0_0 == 2) = false := beq_eq_false_iff_ne.mpr d2
         have d2b1 : (a0_0 != 2) = true := bne_iff_ne.mpr d2
         clear d2
         by_cases d3 : a0_0 = 3
         · rw [if_pos d3] at H
           have d3b0 : (a0_0 == 3) = true := beq_iff_eq.mpr d3
           have d3b1 : (a0_0 != 3) = false := bne_eq_false_iff_eq.mpr d3
           clear d3
           have A9 := Aside0.mk H
           clear H
           have hcz215 : wr.cell? ⟨g1, 0, none⟩ = some (.int .i64 a0_0) := (blk_cell BK1.out 0).trans rfl
           have hfz215 := blk_frozen BK1.out 0
           have hcz216 : wr.cell? ⟨g1, 1, none⟩ = some (.int .i64 a0_1) := (blk_cell BK1.out 1).trans rfl
           have hfz216 := blk_frozen BK1.out 1
           have hcz217 : wr.cell? ⟨g1, 2, none⟩ = some (.int .i64 a0_2) := (blk_cell BK1.out 2).trans rfl
           have hfz217 := blk_frozen BK1.out 2
           have hcz218 : wr.cell? ⟨g1, 3, none⟩ = some (.slice A0_3 l0_3.length c0_3) := (blk_cell BK1.out 3).trans rfl
           have hfz218 := blk_frozen BK1.out 3
           have hcz219 : wr.cell? ⟨g2, 0, none⟩ = some (.int .i64 0) := (blk_cell BK2.out 0).trans rfl
           have hfz219 := blk_frozen BK2.out 0
           have hcz220 : wr.cell? ⟨g2, 1, none⟩ = some (.int .i64 0) := (blk_cell BK2.out 1).trans rfl
           have hfz220 := blk_frozen BK2.out 1
           have hcz221 : wr.cell? ⟨g4, 0, none⟩ = some (.int .i64 s0) := (blk_cell BK4.out 0).trans rfl
           have hfz221 := blk_frozen BK4.out 0
           have hcz222 : wr.cell? ⟨g4, 1, none⟩ = some (.int .i64 s1) := (blk_cell BK4.out 1).trans rfl
           have hfz222 := blk_frozen BK4.out 1
           have hcz223 : wr.cell? ⟨g4, 2, none⟩ = some (.int .i64 t0) := (blk_cell BK4.out 2).trans rfl
           have hfz223 := blk_frozen BK4.out 2
           have hcz224 : wr.cell? ⟨g4, 3, none⟩ = some (.int .i64 t1) := (blk_cell BK4.out 3).trans rfl
           have hfz224 := blk_frozen BK4.out 3
           have hnb225 := NB1_2.out
           have hnc225 := NB2_1.out
           have hnb226 := NB1_4.out
           have hnc226 := NB4_1.out
           have hnb227 := NB2_4.out
           have hnc227 := NB4_2.out
           go_wp2_with (first | (go_at_call 60; (with_reducible refine (impl_SpanRoot.calls k1 s0 s1 r1 r2 r3 _ A9.out).mono ?_); rintro e w9 ⟨rfl, hb⟩; replace BK1 := bb (bk BK1) hb; replace BK2 := bb (bk BK2) hb; replace BK4 := bb (bk BK4) hb; replace HB := hbb (hzs HB) hb; clear hb; have hcz228 : w9.cell? ⟨g2, 0, none⟩ = some (.int .i64 0) := (blk_cell BK2.out 0).trans rfl; have hfz228 := blk_frozen BK2.out 0; have hcz229 : w9.cell? ⟨g2, 1, none⟩ = some (.int .i64 0) := (blk_cell BK2.out 1).trans rfl; have hfz229 := blk_frozen BK2.out 1))
           refine bodyPost_ret (results_ct rfl _ _ g2 31 #[.int .i64 r1, .int .i64 r2] (0, 0) _ rfl (bkp BK2) Try.underlying31 rfl (by kernel_rfl)) rfl ?_
           exact ⟨by first | rfl | (simp [errW_none, errW_some] <;> rfl) | (simp [*, errW_none, errW_some] <;> rfl), hzs HB⟩
         · rw [if_neg d3] at H
           have d3b0 : (a0_0 == 3) = false := beq_eq_false_iff_ne.mpr d3
           have d3b1 : (a0_0 != 3) = true := bne_iff_ne.mpr d3
           clear d3
           by_cases d4 : a0_0 = 4
           · rw [if_pos d4] at H
             have d4b0 : (a0_0 == 4) = true := beq_iff_eq.mpr d4
             have d4b1 : (a0_0 != 4) = false := bne_eq_false_iff_eq.mpr d4
             clear d4
             have A9 := Aside0.mk H
             clear H
             have hcz230 : wr.cell? ⟨g1, 0, none⟩ = some (.int .i64 a0_0) := (blk_cell BK1.out 0).trans rfl
             have hfz230 := blk_frozen BK1.out 0
             have hcz231 : wr.cell? ⟨g1, 1, none⟩ = some (.int .i64 a0_1) := (blk_cell BK1.out 1).trans rfl
             have hfz231 := blk_frozen BK1.out 1
             have hcz232 : wr.cell? ⟨g1, 2, none⟩ = some (.int .i64 a0_2) := (blk_cell BK1.out 2).trans rfl
             have hfz232 := blk_frozen BK1.out 2
             have hcz233 : wr.cell? ⟨g1, 3, none⟩ = some (.slice A0_3 l0_3.length c0_3) := (blk_cell BK1.out 3).trans rfl
             have hfz233 := blk_frozen BK1.out 3
             have hcz234 : wr.cell? ⟨g2, 0, none⟩ = some (.int .i64 0) := (blk_cell BK2.out 0).trans rfl
             have hfz234 := blk_frozen BK2.out 0
             have hcz235 : wr.cell? ⟨g2, 1, none⟩ = some (.int .i64 0) := (blk_cell BK2.out 1).trans rfl
             have hfz235 := blk_frozen BK2.out 1
             have hcz236 : wr.cell? ⟨g4, 0, none⟩ = some (.int .i64 s0) := (blk_cell BK4.out 0).trans rfl
             have hfz236 := blk_frozen BK4.out 0
             have hcz237 : wr.cell? ⟨g4, 1, none⟩ = some (.int .i64 s1) := (blk_cell BK4.out 1).trans rfl
             have hfz237 := blk_frozen BK4.out 1
             have hcz238 : wr.cell? ⟨g4, 2, none⟩ = some (.int .i64 t0) := (blk_cell BK4.out 2).trans rfl
             have hfz238 := blk_frozen BK4.out 2
             have hcz239 : wr.cell? ⟨g4, 3, none⟩ = some (.int .i64 t1) := (blk_cell BK4.out 3).trans rfl
             have hfz239 := blk_frozen BK4.out 3
             have hnb240 := NB1_2.out
             have hnc240 := NB2_1.out
             have hnb241 := NB1_4.out
             have hnc241 := NB4_1.out
             have hnb242 := NB2_4.out
             have hnc242 := NB4_2.out
             go_wp2_with (first | (go_at_call 61; (with_reducible refine (impl_SineOf.calls k1 a0_1 r1 r2 r3 _ A9.out).mono ?_); rintro e w9 ⟨rfl, hb⟩; replace BK1 := bb (bk BK1) hb; replace BK2 := bb (bk BK2) hb; replace BK4 := bb (bk BK4) hb; replace HB := hbb (hzs HB) hb; clear hb; have hcz243 : w9.cell? ⟨g2, 0, none⟩ = some (.int .i64 0) := (blk_cell BK2.out 0).trans rfl; have hfz243 := blk_frozen BK2.out 0; have hcz244 : w9.cell? ⟨g2, 1, none⟩ = some (.int .i64 0) := (blk_cell BK2.out 1).trans rfl; have hfz244 := blk_frozen BK2.out 1))
             refine bodyPost_ret (results_ct rfl _ _ g2 31 #[.int .i64 r1, .int .i64 r2] (0, 0) _ rfl (bkp BK2) Try.underlying31 rfl (by kernel_rfl)) rfl ?_
             exact ⟨by first | rfl | (simp [errW_none, errW_some] <;> rfl) | (simp [*, errW_none, errW_some] <;> rfl), hzs HB⟩
           · rw [if_neg d4] at H
             have d4b0 : (a0_0 == 4) = false := beq_eq_false_iff_ne.mpr d4
             have d4b1 : (a0_0 != 4) = true := bne_iff_ne.mpr d4
             clear d4
             by_cases d5 : a0_0 = 5
             · rw [if_pos d5] at H
               have d5b0 : (a0_0 == 5) = true := beq_iff_eq.mpr d5
               have d5b1 : (a0_0 != 5) = false := bne_eq_false_iff_eq.mpr d5
               clear d5
               have A9 := Aside0.mk H
               clear H
               have hcz245 : wr.cell? ⟨g1, 0, none⟩ = some (.int .i64 a0_0) := (blk_cell BK1.out 0).trans rfl
               have hfz245 := blk_frozen BK1.out 0
               have hcz246 : wr.cell? ⟨g1, 1, none⟩ = some (.int .i64 a0_1) := (blk_cell BK1.out 1).trans rfl
               have hfz246 := blk_frozen BK1.out 1
               have hcz247 : wr.cell? ⟨g1, 2, none⟩ = some (.int .i64 a0_2) := (blk_cell BK1.out 2).trans rfl
               have hfz247 := blk_frozen BK1.out 2
               have hcz248 : wr.cell? ⟨g1, 3, none⟩ = some (.slice A0_3 l0_3.length c0_3) := (blk_cell BK1.out 3).trans rfl
               have hfz248 := blk_frozen BK1.out 3
               have hcz249 : wr.cell? ⟨g2, 0, none⟩ = some (.int .i64 0) := (blk_cell BK2.out 0).trans rfl
               have hfz249 := blk_frozen BK2.out 0
               have hcz250 : wr.cell? ⟨g2, 1, none⟩ = some (.int .i64 0) := (blk_cell BK2.out 1).trans rfl
               have hfz250 := blk_frozen BK2.out 1
               have hcz251 : wr.cell? ⟨g4, 0, none⟩ = some (.int .i64 s0) := (blk_cell BK4.out 0).trans rfl
               have hfz251 := blk_frozen BK4.out 0
               have hcz252 : wr.cell? ⟨g4, 1, none⟩ = some (.int .i64 s1) := (blk_cell BK4.out 1).trans rfl
               have hfz252 := blk_frozen BK4.out 1
               have hcz253 : wr.cell? ⟨g4, 2, none⟩ = some (.int .i64 t0) := (blk_cell BK4.out 2).trans rfl
               have hfz253 := blk_frozen BK4.out 2
               have hcz254 : wr.cell? ⟨g4, 3, none⟩ = some (.int .i64 t1) := (blk_cell BK4.out 3).trans rfl
               have hfz254 := blk_frozen BK4.out 3
               have hnb255 := NB1_2.out
               have hnc255 := NB2_1.out
               have hnb256 := NB1_4.out
               have hnc256 := NB4_1.out
               have hnb257 := NB2_4.out
               have hnc257 := NB4_2.out
               go_wp2_with (first | (go_at_call 62; (with_reducible refine (impl_SpanAdd.calls s0 s1 t0 t1 r1 r2 r3 _ A9.out).mono ?_); rintro e w9 ⟨rfl, hb⟩; replace BK1 := bb (bk BK1) hb; replace BK2 := bb (bk BK2) hb; replace BK4 := bb (bk BK4) hb; replace HB := hbb (hzs HB) hb; clear hb; have hcz258 : w9.cell? ⟨g2, 0, none⟩ = some (.int .i64 0) := (blk_cell BK2.out 0).trans rfl; have hfz258 := blk_frozen BK2.out 0; have hcz259 : w9.cell? ⟨g2, 1, none⟩ = some (.int .i64 0) := (blk_cell BK2.out 1).trans rfl; have hfz259 := blk_frozen BK2.out 1))
               refine bodyPost_ret (results_ct rfl _ _ g2 31 #[.int .i64 r1, .int .i64 r2] (0, 0) _ rfl (bkp BK2) Try.underlying31 rfl (by kernel_rfl)) rfl ?_
               exact ⟨by first | rfl | (simp [errW_none, errW_some] <;> rfl) | (simp [*, errW_none, errW_some] <;> rfl), hzs HB⟩
             · rw [if_neg d5] at H
               have d5b0 : (a0_0 == 5) = false := beq_eq_false_iff_ne.mpr d5
               have d5b1 : (a0_0 != 5) = true := bne_iff_ne.mpr d5
               clear d5
               by_cases d6 : a0_0 = 6
               · rw [if_pos d6] at H
                 have d6b0 : (a0_0 == 6) = true := beq_iff_eq.mpr d6
                 have d6b1 : (a0_0 != 6) = false := bne_eq_false_iff_eq.mpr d6
                 clear d6
                 have A9 := Aside0.mk H
                 clear H
                 have hcz260 : wr.cell? ⟨g1, 0, none⟩ = some (.int .i64 a0_0) := (blk_cell BK1.out 0).trans rfl
                 have hfz260 := blk_frozen BK1.out 0
                 have hcz261 : wr.cell? ⟨g1, 1, none⟩ = some (.int .i64 a0_1) := (blk_cell BK1.out 1).trans rfl
                 have hfz261 := blk_frozen BK1.out 1
                 have hcz262 : wr.cell? ⟨g1, 2, none⟩ = some (.int .i64 a0_2) := (blk_cell BK1.out 2).trans rfl
                 have hfz262 := blk_frozen BK1.out 2
                 have hcz263 : wr.cell? ⟨g1, 3, none⟩ = some (.slice A0_3 l0_3.length c0_3) := (blk_cell BK1.out 3).trans rfl
                 have hfz263 := blk_frozen BK1.out 3
                 have hcz264 : wr.cell? ⟨g2, 0, none⟩ = some (.int .i64 0) := (blk_cell BK2.out 0).trans rfl
                 have hfz264 := blk_frozen BK2.out 0
                 have hcz265 : wr.cell? ⟨g2, 1, none⟩ = some (.int .i64 0) := (blk_cell BK2.out 1).trans rfl
                 have hfz265 := blk_frozen BK2.out 1
                 have hcz266 : wr.cell? ⟨g4, 0, none⟩ = some (.int .i64 s0) := (blk_cell BK4.out 0).trans rfl
                 have hfz266 := blk_frozen BK4.out 0
                 have hcz267 : wr.cell? ⟨g4, 1, none⟩ = some (.int .i64 s1) := (blk_cell BK4.out 1).trans rfl
                 have hfz267 := blk_frozen BK4.out 1
                 have hcz268 : wr.cell? ⟨g4, 2, none⟩ = some (.int .i64 t0) := (blk_cell BK4.out 2).trans rfl
                 have hfz268 := blk_frozen BK4.out 2
                 have hcz269 : wr.cell? ⟨g4, 3, none⟩ = some (.int .i64 t1) := (blk_cell BK4.out 3).trans rfl
                 have hfz269 := blk_frozen BK4.out 3
                 have hnb270 := NB1_2.out
                 have hnc270 := NB2_1.out
                 have hnb271 := NB1_4.out
                 have hnc271 := NB4_1.out
                 have hnb272 := NB2_4.out
                 have hnc272 := NB4_2.out
                 go_wp2_with (first | (go_at_call 63; (with_reducible refine (impl_SpanSub.calls s0 s1 t0 t1 r1 r2 r3 _ A9.out).mono ?_); rintro e w9 ⟨rfl, hb⟩; replace BK1 := bb (bk BK1) hb; replace BK2 := bb (bk BK2) hb; replace BK4 := bb (bk BK4) hb; replace HB := hbb (hzs HB) hb; clear hb; have hcz273 : w9.cell? ⟨g2, 0, none⟩ = some (.int .i64 0) := (blk_cell BK2.out 0).trans rfl; have hfz273 := blk_frozen BK2.out 0; have hcz274 : w9.cell? ⟨g2, 1, none⟩ = some (.int .i64 0) := (blk_cell BK2.out 1).trans rfl; have hfz274 := blk_frozen BK2.out 1))
                 refine bodyPost_ret (results_ct rfl _ _ g2 31 #[.int .i64 r1, .int .i64 r2] (0, 0) _ rfl (bkp BK2) Try.underlying31 rfl (by kernel_rfl)) rfl ?_
                 exact ⟨by first | rfl | (simp [errW_none, errW_some] <;> rfl) | (simp [*, errW_none, errW_some] <;> rfl), hzs HB⟩
               · rw [if_neg d6] at H
                 have d6b0 : (a0_0 == 6) = false := beq_eq_false_iff_ne.mpr d6
                 have d6b1 : (a0_0 != 6) = true := bne_iff_ne.mpr d6
                 clear d6
                 by_cases d7 : a0_0 = 7
                 · rw [if_pos d7] at H
                   have d7b0 : (a0_0 == 7) = true := beq_iff_eq.mpr d7
                   have d7b1 : (a0_0 != 7) = false := bne_eq_false_iff_eq.mpr d7
                   clear d7
                   have A9 := Aside0.mk H
                   clear H
                   have hcz275 : wr.cell? ⟨g1, 0, none⟩ = some (.int .i64 a0_0) := (blk_cell BK1.out 0).trans rfl
                   have hfz275 := blk_frozen BK1.out 0
                   have hcz276 : wr.cell? ⟨g1, 1, none⟩ = some (.int .i64 a0_1) := (blk_cell BK1.out 1).trans rfl
                   have hfz276 := blk_frozen BK1.out 1
                   have hcz277 : wr.cell? ⟨g1, 2, none⟩ = some (.int .i64 a0_2) := (blk_cell BK1.out 2).trans rfl
                   have hfz277 := blk_frozen BK1.out 2
                   have hcz278 : wr.cell? ⟨g1, 3, none⟩ = some (.slice A0_3 l0_3.length c0_3) := (blk_cell BK1.out 3).trans rfl
                   have hfz278 := blk_frozen BK1.out 3
                   have hcz279 : wr.cell? ⟨g2, 0, none⟩ = some (.int .i64 0) := (blk_cell BK2.out 0).trans rfl
                   have hfz279 := blk_frozen BK2.out 0
                   have hcz280 : wr.cell? ⟨g2, 1, none⟩ = some (.int .i64 0) := (blk_cell BK2.out 1).trans rfl
                   have hfz280 := blk_frozen BK2.out 1
                   have hcz281 : wr.cell? ⟨g4, 0, none⟩ = some (.int .i64 s0) := (blk_cell BK4.out 0).trans rfl
                   have hfz281 := blk_frozen BK4.out 0
                   have hcz282 : wr.cell? ⟨g4, 1, none⟩ = some (.int .i64 s1) := (blk_cell BK4.out 1).trans rfl
                   have hfz282 := blk_frozen BK4.out 1
                   have hcz283 : wr.cell? ⟨g4, 2, none⟩ = some (.int .i64 t0) := (blk_cell BK4.out 2).trans rfl
                   have hfz283 := blk_frozen BK4.out 2
                   have hcz284 : wr.cell? ⟨g4, 3, none⟩ = some (.int .i64 t1) := (blk_cell BK4.out 3).trans rfl
                   have hfz284 := blk_frozen BK4.out 3
                   have hnb285 := NB1_2.out
                   have hnc285 := NB2_1.out
                   have hnb286 := NB1_4.out
                   have hnc286 := NB4_1.out
                   have hnb287 := NB2_4.out
                   have hnc287 := NB4_2.out
                   go_wp2_with (first | (go_at_call 64; (with_reducible refine (impl_SpanMul.calls k1 s0 s1 t0 t1 r1 r2 r3 _ A9.out).mono ?_); rintro e w9 ⟨rfl, hb⟩; replace BK1 := bb (bk BK1) hb; replace BK2 := bb (bk BK2) hb; replace BK4 := bb (bk BK4) hb; replace HB := hbb (hzs HB) hb; clear hb; have hcz288 : w9.cell? ⟨g2, 0, none⟩ = some (.int .i64 0) := (blk_cell BK2.out 0).trans rfl; have hfz288 := blk_frozen BK2.out 0; have hcz289 : w9.cell? ⟨g2, 1, none⟩ = some (.int .i64 0) := (blk_cell BK2.out 1).trans rfl; have hfz289 := blk_frozen BK2.out 1))
                   refine bodyPost_ret (results_ct rfl _ _ g2 31 #[.int .i64 r1, .int .i64 r2] (0, 0) _ rfl (bkp BK2) Try.underlying31 rfl (by kernel_rfl)) rfl ?_
                   exact ⟨by first | rfl | (simp [errW_none, errW_some] <;> rfl) | (simp [*, errW_none, errW_some] <;> rfl), hzs HB⟩
                 · rw [if_neg d7] at H
                   have d7b0 : (a0_0 == 7) = false := beq_eq_false_iff_ne.mpr d7
                   have d7b1 : (a0_0 != 7) = true := bne_iff_ne.mpr d7
                   clear d7
                   have A9 := Aside0.mk H
                   clear H
                   have hcz290 : wr.cell? ⟨g1, 0, none⟩ = some (.int .i64 a0_0) := (blk_cell BK1.out 0).trans rfl
                   have hfz290 := blk_frozen BK1.out 0
                   have hcz291 : wr.cell? ⟨g1, 1, none⟩ = some (.int .i64 a0_1) := (blk_cell BK1.out 1).trans rfl
                   have hfz291 := blk_frozen BK1.out 1
                   have hcz292 : wr.cell? ⟨g1, 2, none⟩ = some (.int .i64 a0_2) := (blk_cell BK1.out 2).trans rfl
                   have hfz292 := blk_frozen BK1.out 2
                   have hcz293 : wr.cell? ⟨g1, 3, none⟩ = some (.slice A0_3 l0_3.length c0_3) := (blk_cell BK1.out 3).trans rfl
                   have hfz293 := blk_frozen BK1.out 3
                   have hcz294 : wr.cell? ⟨g2, 0, none⟩ = some (.int .i64 0) := (blk_cell BK2.out 0).trans rfl
                   have hfz294 := blk_frozen BK2.out 0
                   have hcz295 : wr.cell? ⟨g2, 1, none⟩ = some (.int .i64 0) := (blk_cell BK2.out 1).trans rfl
                   have hfz295 := blk_frozen BK2.out 1
                   have hcz296 : wr.cell? ⟨g4, 0, none⟩ = some (.int .i64 s0) := (blk_cell BK4.out 0).trans rfl
                   have hfz296 := blk_frozen BK4.out 0
                   have hcz297 : wr.cell? ⟨g4, 1, none⟩ = some (.int .i64 s1) := (blk_cell BK4.out 1).trans rfl
                   have hfz297 := blk_frozen BK4.out 1
                   have hcz298 : wr.cell? ⟨g4, 2, none⟩ = some (.int .i64 t0) := (blk_cell BK4.out 2).trans rfl
                   have hfz298 := blk_frozen BK4.out 2
                   have hcz299 : wr.cell? ⟨g4, 3, none⟩ = some (.int .i64 t1) := (blk_cell BK4.out 3).trans rfl
                   have hfz299 := blk_frozen BK4.out 3
                   have hnb300 := NB1_2.out
                   have hnc300 := NB2_1.out
                   have hnb301 := NB1_4.out
                   have hnc301 := NB4_1.out
                   have hnb302 := NB2_4.out
                   have hnc302 := NB4_2.out
                   go_wp2_with (first | (go_at_call 65; (with_reducible refine (impl_SpanDiv.calls k1 s0 s1 t0 t1 r1 r2 r3 _ A9.out).mono ?_); rintro e w9 ⟨rfl, hb⟩; replace BK1 := bb (bk BK1) hb; replace BK2 := bb (bk BK2) hb; replace BK4 := bb (bk BK4) hb; replace HB := hbb (hzs HB) hb; clear hb; have hcz303 : w9.cell? ⟨g2, 0, none⟩ = some (.int .i64 0) := (blk_cell BK2.out 0).trans rfl; have hfz303 := blk_frozen BK2.out 0; have hcz304 : w9.cell? ⟨g2, 1, none⟩ = some (.int .i64 0) := (blk_cell BK2.out 1).trans rfl; have hfz304 := blk_frozen BK2.out 1))
                   refine bodyPost_ret (results_ct rfl _ _ g2 31 #[.int .i64 r1, .int .i64 r2] (0, 0) _ rfl (bkp BK2) Try.underlying31 rfl (by kernel_rfl)) rfl ?_
                   exact ⟨by first | rfl | (simp [errW_none, errW_some] <;> rfl) | (simp [*, errW_none, errW_some] <;> rfl), hzs HB⟩

end Go.Proofs.Ytlodpfddimeffaa.M

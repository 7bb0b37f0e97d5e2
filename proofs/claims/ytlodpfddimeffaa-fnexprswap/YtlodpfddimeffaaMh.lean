import Derived.Test.YtlodpfddimeffaaM0
import Derived.Test.YtlodpfddimeffaaMa
import Derived.Test.YtlodpfddimeffaaMc
import Derived.Test.YtlodpfddimeffaaMe
import Derived.Test.YtlodpfddimeffaaMf
import Derived.Test.YtlodpfddimeffaaMg
namespace Go.Proofs.Ytlodpfddimeffaa.M
open Go.RowKit Go.Proofs.YtlodpfddimeffaaW.PrintWords Go.Proofs.YtlodpfddimeffaaW.PrintLast Go.Proofs.YtlodpfddimeffaaW.PrintMore
attribute [local go_sem] max2_int min2_int max_two min_two max_three min_three max_four min_four
attribute [local go_sem high] eqA31
attribute [local go_sem] fld31_0 fld31_1 fld25_0 fld25_1 fld25_2 fld25_3
set_option linter.unusedVariables false
set_option linter.unusedSimpArgs false

/-! ### impl_Expr_span: function 41 -/
def impl_Expr_span.op (k : Nat) (f0 f1 f2 s0 s1 t0 t1 : Int) : Option (Int × Int × Bool) :=
  if f0 = 1 then impl_SpanOf.f f1 f2 else if f0 = 2 then ((impl_SpanNeg.f s0 s1).bind fun b => some (b.1, b.2, true)) else if f0 = 3 then impl_SpanRoot.f k s0 s1 else if f0 = 4 then impl_SineOf.f k f1
  else if f0 = 5 then impl_SpanAdd.f s0 s1 t0 t1 else if f0 = 6 then impl_SpanSub.f s0 s1 t0 t1 else if f0 = 7 then impl_SpanMul.f k s0 s1 t0 t1 else impl_SpanDiv.f k s0 s1 t0 t1
mutual
def impl_Expr_span.l0 : Nat → Int → Int → Int → Int → Int → Int → Int → Int → List S25 → Option (Int × Int × Bool)
  | 0, _, _, _, _, _, _, _, _, _ => none
  | k + 1, s0, s1, t0, t1, i, f0, f1, f2, l => if i < (l.length : Int) then (if i = 0 then ((impl_Expr_span.f k (rd_T25 l 0).f0 (rd_T25 l 0).f1 (rd_T25 l 0).f2 (rd_T25 l 0).f3).bind fun b => if b.2.2 = true then impl_Expr_span.l0 k b.1 b.2.1 t0 t1 1 f0 f1 f2 l else some (0, 0, false))
      else if i = 1 then ((impl_Expr_span.f k (rd_T25 l 1).f0 (rd_T25 l 1).f1 (rd_T25 l 1).f2 (rd_T25 l 1).f3).bind fun b => if b.2.2 = true then impl_Expr_span.l0 k s0 s1 b.1 b.2.1 2 f0 f1 f2 l else some (0, 0, false)) else none) else impl_Expr_span.op k f0 f1 f2 s0 s1 t0 t1
def impl_Expr_span.f : Nat → Int → Int → Int → List S25 → Option (Int × Int × Bool)
  | 0, _, _, _, _ => none
  | k + 1, f0, f1, f2, l => impl_Expr_span.l0 k 0 0 0 0 0 f0 f1 f2 l
end
set_option maxHeartbeats 16000000 in
set_option maxRecDepth 100000 in
theorem impl_Expr_span.calls (k : Nat) : ∀ (a0_0 : Int) (a0_1 : Int) (a0_2 : Int) (A0_3 : Option Addr) (c0_3 : Nat) (l0_3 : List (S25)) (r1 : Int) (r2 : Int) (r3 : Bool) (w : World) (hr0_3 : Kd.C k25 w A0_3 l0_3.length l0_3) (hc0_3 : l0_3.length ≤ c0_3) (h : impl_Expr_span.f k a0_0 a0_1 a0_2 l0_3 = some (r1, r2, r3)),
  Calls Try.prog 41 #[.agg #[.int .i64 a0_0, .int .i64 a0_1, .int .i64 a0_2, .slice A0_3 l0_3.length c0_3]] w fun e w' => e = .returned (.tuple #[.agg #[.int .i64 r1, .int .i64 r2], .bool r3]) ∧ Below w.heap.size w w' := by
 induction k using Nat.strongRecOn with
 | _ k ih =>
 intro a0_0 a0_1 a0_2 A0_3 c0_3 l0_3 r1 r2 r3 w hr0_3 hc0_3 h
 cases k with
 | zero => exact absurd h (by simp [impl_Expr_span.f])
 | succ k =>
 simp only [impl_Expr_span.f] at h
 have hu25 := Try.underlying25
 have hu31 := Try.underlying31
 have hu74 := Try.underlying74
 have HR0_3 := Aside0.mk hr0_3
 have HC0_3 := Aside0.mk hc0_3
 clear hr0_3 hc0_3
 have HB := Aside0.mk (Below.refl w.heap.size w)
 have H' := Aside0.mk h
 clear h
 go_enter Try.func41, Try.ntmps41
 go_wp2_with (first | ((with_reducible refine gate_dst (N := 1) rfl ?_); refine bE 1 #[.int .i64 a0_0, .int .i64 a0_1, .int .i64 a0_2, .slice A0_3 l0_3.length c0_3] 25 ?_; intro g1 hg w1 hbox hb; have BK1 := Aside0.mk hbox; have GE1 := gw hg (hzs HB); replace HB := hbb (hzs HB) hb; clear hb hbox hg) | ((with_reducible refine gate_dst (N := 2) rfl ?_); refine bE 2 #[.int .i64 0, .int .i64 0] 31 ?_; intro g2 hg w2 hbox hb; have BK2 := Aside0.mk hbox; have GE2 := gw hg (hzs HB); have NB1_2 := nl hg (bk BK1); have NB2_1 := ng hg (bk BK1); replace BK1 := bb (bk BK1) hb; replace HB := hbb (hzs HB) hb; clear hb hbox hg) | ((with_reducible refine gate_dst (N := 4) rfl ?_); refine bE 4 #[.int .i64 0, .int .i64 0, .int .i64 0, .int .i64 0] 74 ?_; intro g4 hg w4 hbox hb; have BK4 := Aside0.mk hbox; have GE4 := gw hg (hzs HB); have NB1_4 := nl hg (bk BK1); have NB4_1 := ng hg (bk BK1); have NB2_4 := nl hg (bk BK2); have NB4_2 := ng hg (bk BK2); replace BK1 := bb (bk BK1) hb; replace BK2 := bb (bk BK2) hb; replace HB := hbb (hzs HB) hb; clear hb hbox hg; obtain ⟨hcz1, hcz2, hcz3, hcz4, hfz1, hfz2, hfz3, hfz4⟩ := cz4 BK1))
 go_loopg [12] k (fun kq v12 w' => ∃ (i : Int) (s0 : Int) (s1 : Int) (t0 : Int) (t1 : Int), v12 = .int .i64 i ∧ Aside0 (impl_Expr_span.l0 kq s0 s1 t0 t1 i a0_0 a0_1 a0_2 l0_3 = some (r1, r2, r3)) ∧ Aside0 (kq ≤ k) ∧ Aside0 (w'.heap[g1]? = some (.cells #[.int .i64 a0_0, .int .i64 a0_1, .int .i64 a0_2, (.slice A0_3 l0_3.length c0_3)] 25 (0, 0))) ∧ Aside0 (w'.heap[g2]? = some (.cells #[.int .i64 0, .int .i64 0] 31 (0, 0))) ∧ Aside0 (w'.heap[g4]? = some (.cells #[.int .i64 s0, .int .i64 s1, .int .i64 t0, .int .i64 t1] 74 (0, 0))) ∧ Aside0 (Below w.heap.size w w'))
 case atStart => exact ⟨0, 0, 0, 0, 0, (by first | rfl | (simp; done) | (simp [*]; done)), H', ⟨Nat.le_refl _⟩, ⟨bk BK1⟩, ⟨bk BK2⟩, ⟨bk BK4⟩, ⟨hzs HB⟩⟩
 case round =>
  clear H'
  try clear hcz1 hfz1
  try clear hcz2 hfz2
  try clear hcz3 hfz3
  try clear hcz4 hfz4
  obtain ⟨i, s0, s1, t0, t1, rfl, HA, HK1, BK1, BK2, BK4, HB⟩ := hrel
  cases gk with
  | zero => exact absurd HA.out (by simp [impl_Expr_span.l0])
  | succ k1 =>
   have H := HA.out
   clear HA
   rw [impl_Expr_span.l0] at H
   by_cases c6 : i < (l0_3.length : Int)
   · rw [if_pos c6] at H
     have c6b0 : decide (i < (l0_3.length : Int)) = true := decide_eq_true c6
     by_cases e0 : i = 0
     · subst e0
       rw [if_pos rfl] at H
       replace H := Option.bind_eq_some_iff.mp H
       obtain ⟨⟨x, y, b⟩, A80, H⟩ := H
       have A8 := Aside0.mk A80
       clear A80
       cases b with
       | true =>
         rw [if_pos rfl] at H
         have H' := Aside0.mk H
         clear H
         have p9 : 0 ≤ (0 : Int) := (by omega)
         have q9 : 0 < (l0_3.length : Int) := c6
         have q9b : 0 < l0_3.length := (by omega)
         clear c6
         obtain ⟨ad9, A9_3, c9_3, e9, hx9_0, hx9_1, hx9_2, hx9_3, hl9_3, hi9_3⟩ := at_T25 HR0_3.out 0 p9 q9
         cases e9
         replace hx9_0 := (HB.out.cell (World.block_lt_of_cell? w _ hx9_0)).trans hx9_0
         replace hx9_1 := (HB.out.cell (World.block_lt_of_cell? w _ hx9_1)).trans hx9_1
         replace hx9_2 := (HB.out.cell (World.block_lt_of_cell? w _ hx9_2)).trans hx9_2
         replace hx9_3 := (HB.out.cell (World.block_lt_of_cell? w _ hx9_3)).trans hx9_3
         have HR9_3 := Aside0.mk hi9_3
         have HC9_3 := Aside0.mk hl9_3
         clear hi9_3 hl9_3
         (try rw [show ((0 : Int)).toNat = 0 from rfl] at hx9_0)
         (try rw [show 0 * 4 = 0 from rfl] at hx9_0)
         (try rw [Addr.add_zero'] at hx9_0)
         (try rw [show ((0 : Int)).toNat = 0 from rfl] at hx9_1)
         (try rw [show 0 * 4 = 0 from rfl] at hx9_1)
         (try rw [Addr.add_zero'] at hx9_1)
         (try rw [show ((0 : Int)).toNat = 0 from rfl] at hx9_2)
         (try rw [show 0 * 4 = 0 from rfl] at hx9_2)
         (try rw [Addr.add_zero'] at hx9_2)
         (try rw [show ((0 : Int)).toNat = 0 from rfl] at hx9_3)
         (try rw [show 0 * 4 = 0 from rfl] at hx9_3)
         (try rw [Addr.add_zero'] at hx9_3)
         replace p9 := eq_true p9
         replace q9 := eq_true q9
         replace q9b := eq_true q9b
         obtain ⟨hcz5, hcz6, hcz7, hcz8, hfz5, hfz6, hfz7, hfz8⟩ := cz4 BK1
         obtain ⟨hcz9, hcz10, hfz9, hfz10⟩ := cz2 BK2
         obtain ⟨hcz11, hcz12, hcz13, hcz14, hfz11, hfz12, hfz13, hfz14⟩ := cz4 BK4
         have hnb15 := NB1_2.out
         have hnc15 := NB2_1.out
         have hnb16 := NB1_4.out
         have hnc16 := NB4_1.out
         have hnb17 := NB2_4.out
         have hnc17 := NB4_2.out
         go_wp2_with (first | ((with_reducible refine gate_dst (N := 6) rfl ?_); refine bE 6 #[.int .i64 0, .int .i64 0, .int .i64 0, .slice none 0 0] 25 ?_; intro g6 hg w6 hbox hb; have BK6 := Aside0.mk hbox; have GE6 := gw hg (hzs HB); have NB1_6 := nl hg (bk BK1); have NB6_1 := ng hg (bk BK1); have NB2_6 := nl hg (bk BK2); have NB6_2 := ng hg (bk BK2); have NB4_6 := nl hg (bk BK4); have NB6_4 := ng hg (bk BK4); replace BK1 := bb (bk BK1) hb; replace BK2 := bb (bk BK2) hb; replace BK4 := bb (bk BK4) hb; replace HB := hbb (hzs HB) hb; clear hb hbox hg; obtain ⟨hcz18, hcz19, hcz20, hcz21, hfz18, hfz19, hfz20, hfz21⟩ := cz4 BK1; obtain ⟨hcz22, hcz23, hfz22, hfz23⟩ := cz2 BK2; obtain ⟨hcz24, hcz25, hcz26, hcz27, hfz24, hfz25, hfz26, hfz27⟩ := cz4 BK4; obtain ⟨hcz28, hcz29, hcz30, hcz31, hfz28, hfz29, hfz30, hfz31⟩ := cz4 BK6; have hnb32 := NB1_6.out; have hnc32 := NB6_1.out; have hnb33 := NB2_6.out; have hnc33 := NB6_2.out; have hnb34 := NB4_6.out; have hnc34 := NB6_4.out) | ((with_reducible refine gate_callee (f := 41) rfl ?_); refine gL 19 Try.func41 #[.agg #[.int .i64 ((rd_T25 l0_3 0).f0), .int .i64 ((rd_T25 l0_3 0).f1), .int .i64 ((rd_T25 l0_3 0).f2), .slice A9_3 ((rd_T25 l0_3 0).f3).length c9_3]] ?_; (with_reducible refine (ih k1 (by have := HK1.out; omega) ((rd_T25 l0_3 0).f0) ((rd_T25 l0_3 0).f1) ((rd_T25 l0_3 0).f2) _ _ ((rd_T25 l0_3 0).f3) x y true _ ?side1 ?side2 A8.out).mono ?_); (case side1 => exact Kd.C_below HR9_3.out (hzs HB)); (case side2 => exact HC9_3.out); rintro e w8 ⟨rfl, hb⟩; refine ⟨_, rfl, ?_⟩; replace BK1 := bb (bk1 BK1 NB1_6) hb; replace BK2 := bb (bk1 BK2 NB2_6) hb; replace BK4 := bb (bk1 BK4 NB4_6) hb; clear BK6; replace HB := hbb (hzs HB) hb; clear hb) | ((with_reducible refine gate_dst (N := 7) rfl ?_); refine bE 7 #[.int .i64 0, .int .i64 0] 31 ?_; intro g7 hg w7 hbox hb; have BK7 := Aside0.mk hbox; have GE7 := gw hg (hzs HB); have NB1_7 := nl hg (bk BK1); have NB7_1 := ng hg (bk BK1); have NB2_7 := nl hg (bk BK2); have NB7_2 := ng hg (bk BK2); have NB4_7 := nl hg (bk BK4); have NB7_4 := ng hg (bk BK4); replace BK1 := bb (bk BK1) hb; replace BK2 := bb (bk BK2) hb; replace BK4 := bb (bk BK4) hb; replace HB := hbb (hzs HB) hb; clear hb hbox hg; obtain ⟨hcz35, hcz36, hcz37, hcz38, hfz35, hfz36, hfz37, hfz38⟩ := cz4 BK1; obtain ⟨hcz39, hcz40, hfz39, hfz40⟩ := cz2 BK2; obtain ⟨hcz41, hcz42, hcz43, hcz44, hfz41, hfz42, hfz43, hfz44⟩ := cz4 BK4; obtain ⟨hcz45, hcz46, hfz45, hfz46⟩ := cz2 BK7; have hnb47 := NB1_7.out; have hnc47 := NB7_1.out; have hnb48 := NB2_7.out; have hnc48 := NB7_2.out; have hnb49 := NB4_7.out; have hnc49 := NB7_4.out))
         go_roundg k1
         case measure => have := HK1.out; omega
         case rel => exact ⟨1, x, y, t0, t1, (by first | rfl | (simp; done) | (simp [*]; done) | decide), H', ⟨by have := HK1.out; omega⟩, ⟨bk2 BK1 NB1_7 NB1_4⟩, ⟨bk2 BK2 NB2_7 NB2_4⟩, ⟨(by repeat (first | exact BK4.out | (with_reducible first | refine blk_drewN ?_ _ | refine blk_drew ?_ | refine blk_alloc ?_ _ | refine blk_far ?_ NB4_7.out _) | refine blk_put (cs := #[.int .i64 x, .int .i64 s1, .int .i64 t0, .int .i64 t1]) ?_ 1 _ rfl | refine blk_put (cs := #[.int .i64 s0, .int .i64 s1, .int .i64 t0, .int .i64 t1]) ?_ 0 _ rfl))⟩, ⟨hzs HB⟩⟩
       | false =>
         rw [if_neg (show ¬ (false = true) by decide)] at H
         simp only [Option.some.injEq, Prod.mk.injEq] at H
         obtain ⟨rfl, rfl, rfl⟩ := H
         have p9 : 0 ≤ (0 : Int) := (by omega)
         have q9 : 0 < (l0_3.length : Int) := c6
         have q9b : 0 < l0_3.length := (by omega)
         clear c6
         obtain ⟨ad9, A9_3, c9_3, e9, hx9_0, hx9_1, hx9_2, hx9_3, hl9_3, hi9_3⟩ := at_T25 HR0_3.out 0 p9 q9
         cases e9
         replace hx9_0 := (HB.out.cell (World.block_lt_of_cell? w _ hx9_0)).trans hx9_0
         replace hx9_1 := (HB.out.cell (World.block_lt_of_cell? w _ hx9_1)).trans hx9_1
         replace hx9_2 := (HB.out.cell (World.block_lt_of_cell? w _ hx9_2)).trans hx9_2
         replace hx9_3 := (HB.out.cell (World.block_lt_of_cell? w _ hx9_3)).trans hx9_3
         have HR9_3 := Aside0.mk hi9_3
         have HC9_3 := Aside0.mk hl9_3
         clear hi9_3 hl9_3
         (try rw [show ((0 : Int)).toNat = 0 from rfl] at hx9_0)
         (try rw [show 0 * 4 = 0 from rfl] at hx9_0)
         (try rw [Addr.add_zero'] at hx9_0)
         (try rw [show ((0 : Int)).toNat = 0 from rfl] at hx9_1)
         (try rw [show 0 * 4 = 0 from rfl] at hx9_1)
         (try rw [Addr.add_zero'] at hx9_1)
         (try rw [show ((0 : Int)).toNat = 0 from rfl] at hx9_2)
         (try rw [show 0 * 4 = 0 from rfl] at hx9_2)
         (try rw [Addr.add_zero'] at hx9_2)
         (try rw [show ((0 : Int)).toNat = 0 from rfl] at hx9_3)
         (try rw [show 0 * 4 = 0 from rfl] at hx9_3)
         (try rw [Addr.add_zero'] at hx9_3)
         replace p9 := eq_true p9
         replace q9 := eq_true q9
         replace q9b := eq_true q9b
         obtain ⟨hcz50, hcz51, hcz52, hcz53, hfz50, hfz51, hfz52, hfz53⟩ := cz4 BK1
         obtain ⟨hcz54, hcz55, hfz54, hfz55⟩ := cz2 BK2
         obtain ⟨hcz56, hcz57, hcz58, hcz59, hfz56, hfz57, hfz58, hfz59⟩ := cz4 BK4
         have hnb60 := NB1_2.out
         have hnc60 := NB2_1.out
         have hnb61 := NB1_4.out
         have hnc61 := NB4_1.out
         have hnb62 := NB2_4.out
         have hnc62 := NB4_2.out
         go_wp2_with (first | ((with_reducible refine gate_dst (N := 6) rfl ?_); refine bE 6 #[.int .i64 0, .int .i64 0, .int .i64 0, .slice none 0 0] 25 ?_; intro g6 hg w6 hbox hb; have BK6 := Aside0.mk hbox; have GE6 := gw hg (hzs HB); have NB1_6 := nl hg (bk BK1); have NB6_1 := ng hg (bk BK1); have NB2_6 := nl hg (bk BK2); have NB6_2 := ng hg (bk BK2); have NB4_6 := nl hg (bk BK4); have NB6_4 := ng hg (bk BK4); replace BK1 := bb (bk BK1) hb; replace BK2 := bb (bk BK2) hb; replace BK4 := bb (bk BK4) hb; replace HB := hbb (hzs HB) hb; clear hb hbox hg; obtain ⟨hcz63, hcz64, hcz65, hcz66, hfz63, hfz64, hfz65, hfz66⟩ := cz4 BK1; obtain ⟨hcz67, hcz68, hfz67, hfz68⟩ := cz2 BK2; obtain ⟨hcz69, hcz70, hcz71, hcz72, hfz69, hfz70, hfz71, hfz72⟩ := cz4 BK4; obtain ⟨hcz73, hcz74, hcz75, hcz76, hfz73, hfz74, hfz75, hfz76⟩ := cz4 BK6; have hnb77 := NB1_6.out; have hnc77 := NB6_1.out; have hnb78 := NB2_6.out; have hnc78 := NB6_2.out; have hnb79 := NB4_6.out; have hnc79 := NB6_4.out) | ((with_reducible refine gate_callee (f := 41) rfl ?_); refine gL 19 Try.func41 #[.agg #[.int .i64 ((rd_T25 l0_3 0).f0), .int .i64 ((rd_T25 l0_3 0).f1), .int .i64 ((rd_T25 l0_3 0).f2), .slice A9_3 ((rd_T25 l0_3 0).f3).length c9_3]] ?_; (with_reducible refine (ih k1 (by have := HK1.out; omega) ((rd_T25 l0_3 0).f0) ((rd_T25 l0_3 0).f1) ((rd_T25 l0_3 0).f2) _ _ ((rd_T25 l0_3 0).f3) x y false _ ?side1 ?side2 A8.out).mono ?_); (case side1 => exact Kd.C_below HR9_3.out (hzs HB)); (case side2 => exact HC9_3.out); rintro e w8 ⟨rfl, hb⟩; refine ⟨_, rfl, ?_⟩; replace BK1 := bb (bk1 BK1 NB1_6) hb; replace BK2 := bb (bk1 BK2 NB2_6) hb; replace BK4 := bb (bk1 BK4 NB4_6) hb; clear BK6; replace HB := hbb (hzs HB) hb; clear hb) | ((with_reducible refine gate_dst (N := 7) rfl ?_); refine bE 7 #[.int .i64 0, .int .i64 0] 31 ?_; intro g7 hg w7 hbox hb; have BK7 := Aside0.mk hbox; have GE7 := gw hg (hzs HB); have NB1_7 := nl hg (bk BK1); have NB7_1 := ng hg (bk BK1); have NB2_7 := nl hg (bk BK2); have NB7_2 := ng hg (bk BK2); have NB4_7 := nl hg (bk BK4); have NB7_4 := ng hg (bk BK4); replace BK1 := bb (bk BK1) hb; replace BK2 := bb (bk BK2) hb; replace BK4 := bb (bk BK4) hb; replace HB := hbb (hzs HB) hb; clear hb hbox hg; obtain ⟨hcz80, hcz81, hcz82, hcz83, hfz80, hfz81, hfz82, hfz83⟩ := cz4 BK1; obtain ⟨hcz84, hcz85, hfz84, hfz85⟩ := cz2 BK2; obtain ⟨hcz86, hcz87, hcz88, hcz89, hfz86, hfz87, hfz88, hfz89⟩ := cz4 BK4; obtain ⟨hcz90, hcz91, hfz90, hfz91⟩ := cz2 BK7; have hnb92 := NB1_7.out; have hnc92 := NB7_1.out; have hnb93 := NB2_7.out; have hnc93 := NB7_2.out; have hnb94 := NB4_7.out; have hnc94 := NB7_4.out))
         refine bodyPost_ret (results_ct rfl _ _ g2 31 #[.int .i64 0, .int .i64 0] (0, 0) _ rfl (by repeat (first | exact BK2.out | (with_reducible first | refine blk_drewN ?_ _ | refine blk_drew ?_ | refine blk_alloc ?_ _ | refine blk_far ?_ NB2_7.out _) | refine blk_put (cs := #[.int .i64 0, .int .i64 0]) ?_ 1 _ rfl | refine blk_put (cs := #[.int .i64 0, .int .i64 0]) ?_ 0 _ rfl)) Try.underlying31 rfl (by kernel_rfl)) rfl ?_
         exact ⟨by first | rfl | (simp [errW_none, errW_some] <;> rfl) | (simp [*, errW_none, errW_some] <;> rfl), hzs HB⟩
     · rw [if_neg e0] at H
       by_cases e1 : i = 1
       · subst e1
         rw [if_pos (show (1 : Int) = 1 from rfl)] at H
         replace H := Option.bind_eq_some_iff.mp H
         obtain ⟨⟨x, y, b⟩, A80, H⟩ := H
         have A8 := Aside0.mk A80
         clear A80
         cases b with
         | true =>
           rw [if_pos rfl] at H
           have H' := Aside0.mk H
           clear H
           have p9 : 0 ≤ (1 : Int) := (by omega)
           have q9 : 1 < (l0_3.length : Int) := c6
           have q9b : 1 < l0_3.length := (by omega)
           clear c6
           obtain ⟨ad9, A9_3, c9_3, e9, hx9_0, hx9_1, hx9_2, hx9_3, hl9_3, hi9_3⟩ := at_T25 HR0_3.out 1 p9 q9
           cases e9
           replace hx9_0 := (HB.out.cell (World.block_lt_of_cell? w _ hx9_0)).trans hx9_0
           replace hx9_1 := (HB.out.cell (World.block_lt_of_cell? w _ hx9_1)).trans hx9_1
           replace hx9_2 := (HB.out.cell (World.block_lt_of_cell? w _ hx9_2)).trans hx9_2
           replace hx9_3 := (HB.out.cell (World.block_lt_of_cell? w _ hx9_3)).trans hx9_3
           have HR9_3 := Aside0.mk hi9_3
           have HC9_3 := Aside0.mk hl9_3
           clear hi9_3 hl9_3
           (try simp only [show (1 : Int).toNat = 1 from rfl, Nat.reduceMul, Nat.reduceEqDiff, Go.Addr.add, ↓reduceIte] at hx9_0)
           (try rw [show ((1 : Int)).toNat = 1 from rfl] at hx9_0)
           (try rw [show 1 * 4 = 4 from rfl] at hx9_0)
           (try rw [Addr.add_zero'] at hx9_0)
           (try simp only [show (1 : Int).toNat = 1 from rfl, Nat.reduceMul, Nat.reduceEqDiff, Go.Addr.add, ↓reduceIte] at hx9_1)
           (try rw [show ((1 : Int)).toNat = 1 from rfl] at hx9_1)
           (try rw [show 1 * 4 = 4 from rfl] at hx9_1)
           (try rw [Addr.add_zero'] at hx9_1)
           (try simp only [show (1 : Int).toNat = 1 from rfl, Nat.reduceMul, Nat.reduceEqDiff, Go.Addr.add, ↓reduceIte] at hx9_2)
           (try rw [show ((1 : Int)).toNat = 1 from rfl] at hx9_2)
           (try rw [show 1 * 4 = 4 from rfl] at hx9_2)
           (try rw [Addr.add_zero'] at hx9_2)
           (try simp only [show (1 : Int).toNat = 1 from rfl, Nat.reduceMul, Nat.reduceEqDiff, Go.Addr.add, ↓reduceIte] at hx9_3)
           (try rw [show ((1 : Int)).toNat = 1 from rfl] at hx9_3)
           (try rw [show 1 * 4 = 4 from rfl] at hx9_3)
           (try rw [Addr.add_zero'] at hx9_3)
           replace p9 := eq_true p9
           replace q9 := eq_true q9
           replace q9b := eq_true q9b
           obtain ⟨hcz95, hcz96, hcz97, hcz98, hfz95, hfz96, hfz97, hfz98⟩ := cz4 BK1
           obtain ⟨hcz99, hcz100, hfz99, hfz100⟩ := cz2 BK2
           obtain ⟨hcz101, hcz102, hcz103, hcz104, hfz101, hfz102, hfz103, hfz104⟩ := cz4 BK4
           have hnb105 := NB1_2.out
           have hnc105 := NB2_1.out
           have hnb106 := NB1_4.out
           have hnc106 := NB4_1.out
           have hnb107 := NB2_4.out
           have hnc107 := NB4_2.out
           go_wp2_with (first | ((with_reducible refine gate_dst (N := 6) rfl ?_); refine bE 6 #[.int .i64 0, .int .i64 0, .int .i64 0, .slice none 0 0] 25 ?_; intro g6 hg w6 hbox hb; have BK6 := Aside0.mk hbox; have GE6 := gw hg (hzs HB); have NB1_6 := nl hg (bk BK1); have NB6_1 := ng hg (bk BK1); have NB2_6 := nl hg (bk BK2); have NB6_2 := ng hg (bk BK2); have NB4_6 := nl hg (bk BK4); have NB6_4 := ng hg (bk BK4); replace BK1 := bb (bk BK1) hb; replace BK2 := bb (bk BK2) hb; replace BK4 := bb (bk BK4) hb; replace HB := hbb (hzs HB) hb; clear hb hbox hg; obtain ⟨hcz108, hcz109, hcz110, hcz111, hfz108, hfz109, hfz110, hfz111⟩ := cz4 BK1; obtain ⟨hcz112, hcz113, hfz112, hfz113⟩ := cz2 BK2; obtain ⟨hcz114, hcz115, hcz116, hcz117, hfz114, hfz115, hfz116, hfz117⟩ := cz4 BK4; obtain ⟨hcz118, hcz119, hcz120, hcz121, hfz118, hfz119, hfz120, hfz121⟩ := cz4 BK6; have hnb122 := NB1_6.out; have hnc122 := NB6_1.out; have hnb123 := NB2_6.out; have hnc123 := NB6_2.out; have hnb124 := NB4_6.out; have hnc124 := NB6_4.out) | ((with_reducible refine gate_callee (f := 41) rfl ?_); refine gL 19 Try.func41 #[.agg #[.int .i64 ((rd_T25 l0_3 1).f0), .int .i64 ((rd_T25 l0_3 1).f1), .int .i64 ((rd_T25 l0_3 1).f2), .slice A9_3 ((rd_T25 l0_3 1).f3).length c9_3]] ?_; (with_reducible refine (ih k1 (by have := HK1.out; omega) ((rd_T25 l0_3 1).f0) ((rd_T25 l0_3 1).f1) ((rd_T25 l0_3 1).f2) _ _ ((rd_T25 l0_3 1).f3) x y true _ ?side1 ?side2 A8.out).mono ?_); (case side1 => exact Kd.C_below HR9_3.out (hzs HB)); (case side2 => exact HC9_3.out); rintro e w8 ⟨rfl, hb⟩; refine ⟨_, rfl, ?_⟩; replace BK1 := bb (bk1 BK1 NB1_6) hb; replace BK2 := bb (bk1 BK2 NB2_6) hb; replace BK4 := bb (bk1 BK4 NB4_6) hb; clear BK6; replace HB := hbb (hzs HB) hb; clear hb) | ((with_reducible refine gate_dst (N := 7) rfl ?_); refine bE 7 #[.int .i64 0, .int .i64 0] 31 ?_; intro g7 hg w7 hbox hb; have BK7 := Aside0.mk hbox; have GE7 := gw hg (hzs HB); have NB1_7 := nl hg (bk BK1); have NB7_1 := ng hg (bk BK1); have NB2_7 := nl hg (bk BK2); have NB7_2 := ng hg (bk BK2); have NB4_7 := nl hg (bk BK4); have NB7_4 := ng hg (bk BK4); replace BK1 := bb (bk BK1) hb; replace BK2 := bb (bk BK2) hb; replace BK4 := bb (bk BK4) hb; replace HB := hbb (hzs HB) hb; clear hb hbox hg; obtain ⟨hcz125, hcz126, hcz127, hcz128, hfz125, hfz126, hfz127, hfz128⟩ := cz4 BK1; obtain ⟨hcz129, hcz130, hfz129, hfz130⟩ := cz2 BK2; obtain ⟨hcz131, hcz132, hcz133, hcz134, hfz131, hfz132, hfz133, hfz134⟩ := cz4 BK4; obtain ⟨hcz135, hcz136, hfz135, hfz136⟩ := cz2 BK7; have hnb137 := NB1_7.out; have hnc137 := NB7_1.out; have hnb138 := NB2_7.out; have hnc138 := NB7_2.out; have hnb139 := NB4_7.out; have hnc139 := NB7_4.out))
           go_roundg k1
           case measure => have := HK1.out; omega
           case rel => exact ⟨2, s0, s1, x, y, (by first | rfl | (simp; done) | (simp [*]; done) | decide), H', ⟨by have := HK1.out; omega⟩, ⟨bk2 BK1 NB1_7 NB1_4⟩, ⟨bk2 BK2 NB2_7 NB2_4⟩, ⟨(by repeat (first | exact BK4.out | (with_reducible first | refine blk_drewN ?_ _ | refine blk_drew ?_ | refine blk_alloc ?_ _ | refine blk_far ?_ NB4_7.out _) | refine blk_put (cs := #[.int .i64 s0, .int .i64 s1, .int .i64 x, .int .i64 t1]) ?_ 3 _ rfl | refine blk_put (cs := #[.int .i64 s0, .int .i64 s1, .int .i64 t0, .int .i64 t1]) ?_ 2 _ rfl))⟩, ⟨hzs HB⟩⟩
         | false =>
           rw [if_neg (show ¬ (false = true) by decide)] at H
           simp only [Option.some.injEq, Prod.mk.injEq] at H
           obtain ⟨rfl, rfl, rfl⟩ := H
           have p9 : 0 ≤ (1 : Int) := (by omega)
           have q9 : 1 < (l0_3.length : Int) := c6
           have q9b : 1 < l0_3.length := (by omega)
           clear c6
           obtain ⟨ad9, A9_3, c9_3, e9, hx9_0, hx9_1, hx9_2, hx9_3, hl9_3, hi9_3⟩ := at_T25 HR0_3.out 1 p9 q9
           cases e9
           replace hx9_0 := (HB.out.cell (World.block_lt_of_cell? w _ hx9_0)).trans hx9_0
           replace hx9_1 := (HB.out.cell (World.block_lt_of_cell? w _ hx9_1)).trans hx9_1
           replace hx9_2 := (HB.out.cell (World.block_lt_of_cell? w _ hx9_2)).trans hx9_2
           replace hx9_3 := (HB.out.cell (World.block_lt_of_cell? w _ hx9_3)).trans hx9_3
           have HR9_3 := Aside0.mk hi9_3
           have HC9_3 := Aside0.mk hl9_3
           clear hi9_3 hl9_3
           (try simp only [show (1 : Int).toNat = 1 from rfl, Nat.reduceMul, Nat.reduceEqDiff, Go.Addr.add, ↓reduceIte] at hx9_0)
           (try rw [show ((1 : Int)).toNat = 1 from rfl] at hx9_0)
           (try rw [show 1 * 4 = 4 from rfl] at hx9_0)
           (try rw [Addr.add_zero'] at hx9_0)
           (try simp only [show (1 : Int).toNat = 1 from rfl, Nat.reduceMul, Nat.reduceEqDiff, Go.Addr.add, ↓reduceIte] at hx9_1)
           (try rw [show ((1 : Int)).toNat = 1 from rfl] at hx9_1)
           (try rw [show 1 * 4 = 4 from rfl] at hx9_1)
           (try rw [Addr.add_zero'] at hx9_1)
           (try simp only [show (1 : Int).toNat = 1 from rfl, Nat.reduceMul, Nat.reduceEqDiff, Go.Addr.add, ↓reduceIte] at hx9_2)
           (try rw [show ((1 : Int)).toNat = 1 from rfl] at hx9_2)
           (try rw [show 1 * 4 = 4 from rfl] at hx9_2)
           (try rw [Addr.add_zero'] at hx9_2)
           (try simp only [show (1 : Int).toNat = 1 from rfl, Nat.reduceMul, Nat.reduceEqDiff, Go.Addr.add, ↓reduceIte] at hx9_3)
           (try rw [show ((1 : Int)).toNat = 1 from rfl] at hx9_3)
           (try rw [show 1 * 4 = 4 from rfl] at hx9_3)
           (try rw [Addr.add_zero'] at hx9_3)
           replace p9 := eq_true p9
           replace q9 := eq_true q9
           replace q9b := eq_true q9b
           obtain ⟨hcz140, hcz141, hcz142, hcz143, hfz140, hfz141, hfz142, hfz143⟩ := cz4 BK1
           obtain ⟨hcz144, hcz145, hfz144, hfz145⟩ := cz2 BK2
           obtain ⟨hcz146, hcz147, hcz148, hcz149, hfz146, hfz147, hfz148, hfz149⟩ := cz4 BK4
           have hnb150 := NB1_2.out
           have hnc150 := NB2_1.out
           have hnb151 := NB1_4.out
           have hnc151 := NB4_1.out
           have hnb152 := NB2_4.out
           have hnc152 := NB4_2.out
           go_wp2_with (first | ((with_reducible refine gate_dst (N := 6) rfl ?_); refine bE 6 #[.int .i64 0, .int .i64 0, .int .i64 0, .slice none 0 0] 25 ?_; intro g6 hg w6 hbox hb; have BK6 := Aside0.mk hbox; have GE6 := gw hg (hzs HB); have NB1_6 := nl hg (bk BK1); have NB6_1 := ng hg (bk BK1); have NB2_6 := nl hg (bk BK2); have NB6_2 := ng hg (bk BK2); have NB4_6 := nl hg (bk BK4); have NB6_4 := ng hg (bk BK4); replace BK1 := bb (bk BK1) hb; replace BK2 := bb (bk BK2) hb; replace BK4 := bb (bk BK4) hb; replace HB := hbb (hzs HB) hb; clear hb hbox hg; obtain ⟨hcz153, hcz154, hcz155, hcz156, hfz153, hfz154, hfz155, hfz156⟩ := cz4 BK1; obtain ⟨hcz157, hcz158, hfz157, hfz158⟩ := cz2 BK2; obtain ⟨hcz159, hcz160, hcz161, hcz162, hfz159, hfz160, hfz161, hfz162⟩ := cz4 BK4; obtain ⟨hcz163, hcz164, hcz165, hcz166, hfz163, hfz164, hfz165, hfz166⟩ := cz4 BK6; have hnb167 := NB1_6.out; have hnc167 := NB6_1.out; have hnb168 := NB2_6.out; have hnc168 := NB6_2.out; have hnb169 := NB4_6.out; have hnc169 := NB6_4.out) | ((with_reducible refine gate_callee (f := 41) rfl ?_); refine gL 19 Try.func41 #[.agg #[.int .i64 ((rd_T25 l0_3 1).f0), .int .i64 ((rd_T25 l0_3 1).f1), .int .i64 ((rd_T25 l0_3 1).f2), .slice A9_3 ((rd_T25 l0_3 1).f3).length c9_3]] ?_; (with_reducible refine (ih k1 (by have := HK1.out; omega) ((rd_T25 l0_3 1).f0) ((rd_T25 l0_3 1).f1) ((rd_T25 l0_3 1).f2) _ _ ((rd_T25 l0_3 1).f3) x y false _ ?side1 ?side2 A8.out).mono ?_); (case side1 => exact Kd.C_below HR9_3.out (hzs HB)); (case side2 => exact HC9_3.out); rintro e w8 ⟨rfl, hb⟩; refine ⟨_, rfl, ?_⟩; replace BK1 := bb (bk1 BK1 NB1_6) hb; replace BK2 := bb (bk1 BK2 NB2_6) hb; replace BK4 := bb (bk1 BK4 NB4_6) hb; clear BK6; replace HB := hbb (hzs HB) hb; clear hb) | ((with_reducible refine gate_dst (N := 7) rfl ?_); refine bE 7 #[.int .i64 0, .int .i64 0] 31 ?_; intro g7 hg w7 hbox hb; have BK7 := Aside0.mk hbox; have GE7 := gw hg (hzs HB); have NB1_7 := nl hg (bk BK1); have NB7_1 := ng hg (bk BK1); have NB2_7 := nl hg (bk BK2); have NB7_2 := ng hg (bk BK2); have NB4_7 := nl hg (bk BK4); have NB7_4 := ng hg (bk BK4); replace BK1 := bb (bk BK1) hb; replace BK2 := bb (bk BK2) hb; replace BK4 := bb (bk BK4) hb; replace HB := hbb (hzs HB) hb; clear hb hbox hg; obtain ⟨hcz170, hcz171, hcz172, hcz173, hfz170, hfz171, hfz172, hfz173⟩ := cz4 BK1; obtain ⟨hcz174, hcz175, hfz174, hfz175⟩ := cz2 BK2; obtain ⟨hcz176, hcz177, hcz178, hcz179, hfz176, hfz177, hfz178, hfz179⟩ := cz4 BK4; obtain ⟨hcz180, hcz181, hfz180, hfz181⟩ := cz2 BK7; have hnb182 := NB1_7.out; have hnc182 := NB7_1.out; have hnb183 := NB2_7.out; have hnc183 := NB7_2.out; have hnb184 := NB4_7.out; have hnc184 := NB7_4.out))
           refine bodyPost_ret (results_ct rfl _ _ g2 31 #[.int .i64 0, .int .i64 0] (0, 0) _ rfl (by repeat (first | exact BK2.out | (with_reducible first | refine blk_drewN ?_ _ | refine blk_drew ?_ | refine blk_alloc ?_ _ | refine blk_far ?_ NB2_7.out _) | refine blk_put (cs := #[.int .i64 0, .int .i64 0]) ?_ 1 _ rfl | refine blk_put (cs := #[.int .i64 0, .int .i64 0]) ?_ 0 _ rfl)) Try.underlying31 rfl (by kernel_rfl)) rfl ?_
           exact ⟨by first | rfl | (simp [errW_none, errW_some] <;> rfl) | (simp [*, errW_none, errW_some] <;> rfl), hzs HB⟩
       · rw [if_neg e1] at H
         exact absurd H (by simp)
   · rw [if_neg c6] at H
     have c6b0 : decide (i < (l0_3.length : Int)) = false := decide_eq_false c6
     clear c6
     unfold impl_Expr_span.op at H
     by_cases d1 : a0_0 = 1
     · rw [if_pos d1] at H
       have d1b0 : (a0_0 == 1) = true := beq_iff_eq.mpr d1
       have d1b1 : (a0_0 != 1) = false := bne_eq_false_iff_eq.mpr d1
       clear d1
       have A9 := Aside0.mk H
       clear H
       obtain ⟨hcz185, hcz186, hcz187, hcz188, hfz185, hfz186, hfz187, hfz188⟩ := cz4 BK1
       obtain ⟨hcz189, hcz190, hfz189, hfz190⟩ := cz2 BK2
       obtain ⟨hcz191, hcz192, hcz193, hcz194, hfz191, hfz192, hfz193, hfz194⟩ := cz4 BK4
       have hnb195 := NB1_2.out
       have hnc195 := NB2_1.out
       have hnb196 := NB1_4.out
       have hnc196 := NB4_1.out
       have hnb197 := NB2_4.out
       have hnc197 := NB4_2.out
       go_wp2_with (first | (go_at_call 59; (with_reducible refine (impl_SpanOf.calls a0_1 a0_2 r1 r2 r3 _ A9.out).mono ?_); rintro e w9 ⟨rfl, hb⟩; replace BK1 := bb (bk BK1) hb; replace BK2 := bb (bk BK2) hb; replace BK4 := bb (bk BK4) hb; replace HB := hbb (hzs HB) hb; clear hb; obtain ⟨hcz198, hcz199, hfz198, hfz199⟩ := cz2 BK2))
       refine bodyPost_ret (results_ct rfl _ _ g2 31 #[.int .i64 r1, .int .i64 r2] (0, 0) _ rfl (bkp BK2) Try.underlying31 rfl (by kernel_rfl)) rfl ?_
       exact ⟨by first | rfl | (simp [errW_none, errW_some] <;> rfl) | (simp [*, errW_none, errW_some] <;> rfl), hzs HB⟩
     · rw [if_neg d1] at H
       have d1b0 : (a0_0 == 1) = false := beq_eq_false_iff_ne.mpr d1
       have d1b1 : (a0_0 != 1) = true := bne_iff_ne.mpr d1
       clear d1
       by_cases d2 : a0_0 = 2
       · rw [if_pos d2] at H
         have d2b0 : (a0_0 == 2) = true := beq_iff_eq.mpr d2
         have d2b1 : (a0_0 != 2) = false := bne_eq_false_iff_eq.mpr d2
         clear d2
         replace H := Option.bind_eq_some_iff.mp H
         obtain ⟨⟨x, y⟩, A90, H⟩ := H
         have A9 := Aside0.mk A90
         clear A90
         simp only [Option.some.injEq, Prod.mk.injEq] at H
         obtain ⟨rfl, rfl, rfl⟩ := H
         obtain ⟨hcz200, hcz201, hcz202, hcz203, hfz200, hfz201, hfz202, hfz203⟩ := cz4 BK1
         obtain ⟨hcz204, hcz205, hfz204, hfz205⟩ := cz2 BK2
         obtain ⟨hcz206, hcz207, hcz208, hcz209, hfz206, hfz207, hfz208, hfz209⟩ := cz4 BK4
         have hnb210 := NB1_2.out
         have hnc210 := NB2_1.out
         have hnb211 := NB1_4.out
         have hnc211 := NB4_1.out
         have hnb212 := NB2_4.out
         have hnc212 := NB4_2.out
         go_wp2_with (first | (go_at_call 34; (with_reducible refine (impl_SpanNeg.calls s0 s1 x y _ A9.out).mono ?_); rintro e w9 ⟨rfl, hb⟩; replace BK1 := bb (bk BK1) hb; replace BK2 := bb (bk BK2) hb; replace BK4 := bb (bk BK4) hb; replace HB := hbb (hzs HB) hb; clear hb; obtain ⟨hcz213, hcz214, hfz213, hfz214⟩ := cz2 BK2))
         refine bodyPost_ret (results_ct rfl _ _ g2 31 #[.int .i64 x, .int .i64 y] (0, 0) _ rfl (bkp BK2) Try.underlying31 rfl (by kernel_rfl)) rfl ?_
         exact ⟨by first | rfl | (simp [errW_none, errW_some] <;> rfl) | (simp [*, errW_none, errW_some] <;> rfl), hzs HB⟩
       · rw [if_neg d2] at H
         have d2b0 : (a0_0 == 2) = false := beq_eq_false_iff_ne.mpr d2
         have d2b1 : (a0_0 != 2) = true := bne_iff_ne.mpr d2
         clear d2
         by_cases d3 : a0_0 = 3
         · rw [if_pos d3] at H
           have d3b0 : (a0_0 == 3) = true := beq_iff_eq.mpr d3
           have d3b1 : (a0_0 != 3) = false := bne_eq_false_iff_eq.mpr d3
           clear d3
           have A9 := Aside0.mk H
           clear H
           obtain ⟨hcz215, hcz216, hcz217, hcz218, hfz215, hfz216, hfz217, hfz218⟩ := cz4 BK1
           obtain ⟨hcz219, hcz220, hfz219, hfz220⟩ := cz2 BK2
           obtain ⟨hcz221, hcz222, hcz223, hcz224, hfz221, hfz222, hfz223, hfz224⟩ := cz4 BK4
           have hnb225 := NB1_2.out
           have hnc225 := NB2_1.out
           have hnb226 := NB1_4.out
           have hnc226 := NB4_1.out
           have hnb227 := NB2_4.out
           have hnc227 := NB4_2.out
           go_wp2_with (first | (go_at_call 60; (with_reducible refine (impl_SpanRoot.calls k1 s0 s1 r1 r2 r3 _ A9.out).mono ?_); rintro e w9 ⟨rfl, hb⟩; replace BK1 := bb (bk BK1) hb; replace BK2 := bb (bk BK2) hb; replace BK4 := bb (bk BK4) hb; replace HB := hbb (hzs HB) hb; clear hb; obtain ⟨hcz228, hcz229, hfz228, hfz229⟩ := cz2 BK2))
           refine bodyPost_ret (results_ct rfl _ _ g2 31 #[.int .i64 r1, .int .i64 r2] (0, 0) _ rfl (bkp BK2) Try.underlying31 rfl (by kernel_rfl)) rfl ?_
           exact ⟨by first | rfl | (simp [errW_none, errW_some] <;> rfl) | (simp [*, errW_none, errW_some] <;> rfl), hzs HB⟩
         · rw [if_neg d3] at H
           have d3b0 : (a0_0 == 3) = false := beq_eq_false_iff_ne.mpr d3
           have d3b1 : (a0_0 != 3) = true := bne_iff_ne.mpr d3
           clear d3
           by_cases d4 : a0_0 = 4
           · rw [if_pos d4] at H
             have d4b0 : (a0_0 == 4) = true := beq_iff_eq.mpr d4
             have d4b1 : (a0_0 != 4) = false := bne_eq_false_iff_eq.mpr d4
             clear d4
             have A9 := Aside0.mk H
             clear H
             obtain ⟨hcz230, hcz231, hcz232, hcz233, hfz230, hfz231, hfz232, hfz233⟩ := cz4 BK1
             obtain ⟨hcz234, hcz235, hfz234, hfz235⟩ := cz2 BK2
             obtain ⟨hcz236, hcz237, hcz238, hcz239, hfz236, hfz237, hfz238, hfz239⟩ := cz4 BK4
             have hnb240 := NB1_2.out
             have hnc240 := NB2_1.out
             have hnb241 := NB1_4.out
             have hnc241 := NB4_1.out
             have hnb242 := NB2_4.out
             have hnc242 := NB4_2.out
             go_wp2_with (first | (go_at_call 61; (with_reducible refine (impl_SineOf.calls k1 a0_1 r1 r2 r3 _ A9.out).mono ?_); rintro e w9 ⟨rfl, hb⟩; replace BK1 := bb (bk BK1) hb; replace BK2 := bb (bk BK2) hb; replace BK4 := bb (bk BK4) hb; replace HB := hbb (hzs HB) hb; clear hb; obtain ⟨hcz243, hcz244, hfz243, hfz244⟩ := cz2 BK2))
             refine bodyPost_ret (results_ct rfl _ _ g2 31 #[.int .i64 r1, .int .i64 r2] (0, 0) _ rfl (bkp BK2) Try.underlying31 rfl (by kernel_rfl)) rfl ?_
             exact ⟨by first | rfl | (simp [errW_none, errW_some] <;> rfl) | (simp [*, errW_none, errW_some] <;> rfl), hzs HB⟩
           · rw [if_neg d4] at H
             have d4b0 : (a0_0 == 4) = false := beq_eq_false_iff_ne.mpr d4
             have d4b1 : (a0_0 != 4) = true := bne_iff_ne.mpr d4
             clear d4
             by_cases d5 : a0_0 = 5
             · rw [if_pos d5] at H
               have d5b0 : (a0_0 == 5) = true := beq_iff_eq.mpr d5
               have d5b1 : (a0_0 != 5) = false := bne_eq_false_iff_eq.mpr d5
               clear d5
               have A9 := Aside0.mk H
               clear H
               obtain ⟨hcz245, hcz246, hcz247, hcz248, hfz245, hfz246, hfz247, hfz248⟩ := cz4 BK1
               obtain ⟨hcz249, hcz250, hfz249, hfz250⟩ := cz2 BK2
               obtain ⟨hcz251, hcz252, hcz253, hcz254, hfz251, hfz252, hfz253, hfz254⟩ := cz4 BK4
               have hnb255 := NB1_2.out
               have hnc255 := NB2_1.out
               have hnb256 := NB1_4.out
               have hnc256 := NB4_1.out
               have hnb257 := NB2_4.out
               have hnc257 := NB4_2.out
               go_wp2_with (first | (go_at_call 62; (with_reducible refine (impl_SpanAdd.calls s0 s1 t0 t1 r1 r2 r3 _ A9.out).mono ?_); rintro e w9 ⟨rfl, hb⟩; replace BK1 := bb (bk BK1) hb; replace BK2 := bb (bk BK2) hb; replace BK4 := bb (bk BK4) hb; replace HB := hbb (hzs HB) hb; clear hb; obtain ⟨hcz258, hcz259, hfz258, hfz259⟩ := cz2 BK2))
               refine bodyPost_ret (results_ct rfl _ _ g2 31 #[.int .i64 r1, .int .i64 r2] (0, 0) _ rfl (bkp BK2) Try.underlying31 rfl (by kernel_rfl)) rfl ?_
               exact ⟨by first | rfl | (simp [errW_none, errW_some] <;> rfl) | (simp [*, errW_none, errW_some] <;> rfl), hzs HB⟩
             · rw [if_neg d5] at H
               have d5b0 : (a0_0 == 5) = false := beq_eq_false_iff_ne.mpr d5
               have d5b1 : (a0_0 != 5) = true := bne_iff_ne.mpr d5
               clear d5
               by_cases d6 : a0_0 = 6
               · rw [if_pos d6] at H
                 have d6b0 : (a0_0 == 6) = true := beq_iff_eq.mpr d6
                 have d6b1 : (a0_0 != 6) = false := bne_eq_false_iff_eq.mpr d6
                 clear d6
                 have A9 := Aside0.mk H
                 clear H
                 obtain ⟨hcz260, hcz261, hcz262, hcz263, hfz260, hfz261, hfz262, hfz263⟩ := cz4 BK1
                 obtain ⟨hcz264, hcz265, hfz264, hfz265⟩ := cz2 BK2
                 obtain ⟨hcz266, hcz267, hcz268, hcz269, hfz266, hfz267, hfz268, hfz269⟩ := cz4 BK4
                 have hnb270 := NB1_2.out
                 have hnc270 := NB2_1.out
                 have hnb271 := NB1_4.out
                 have hnc271 := NB4_1.out
                 have hnb272 := NB2_4.out
                 have hnc272 := NB4_2.out
                 go_wp2_with (first | (go_at_call 63; (with_reducible refine (impl_SpanSub.calls s0 s1 t0 t1 r1 r2 r3 _ A9.out).mono ?_); rintro e w9 ⟨rfl, hb⟩; replace BK1 := bb (bk BK1) hb; replace BK2 := bb (bk BK2) hb; replace BK4 := bb (bk BK4) hb; replace HB := hbb (hzs HB) hb; clear hb; obtain ⟨hcz273, hcz274, hfz273, hfz274⟩ := cz2 BK2))
                 refine bodyPost_ret (results_ct rfl _ _ g2 31 #[.int .i64 r1, .int .i64 r2] (0, 0) _ rfl (bkp BK2) Try.underlying31 rfl (by kernel_rfl)) rfl ?_
                 exact ⟨by first | rfl | (simp [errW_none, errW_some] <;> rfl) | (simp [*, errW_none, errW_some] <;> rfl), hzs HB⟩
               · rw [if_neg d6] at H
                 have d6b0 : (a0_0 == 6) = false := beq_eq_false_iff_ne.mpr d6
                 have d6b1 : (a0_0 != 6) = true := bne_iff_ne.mpr d6
                 clear d6
                 by_cases d7 : a0_0 = 7
                 · rw [if_pos d7] at H
                   have d7b0 : (a0_0 == 7) = true := beq_iff_eq.mpr d7
                   have d7b1 : (a0_0 != 7) = false := bne_eq_false_iff_eq.mpr d7
                   clear d7
                   have A9 := Aside0.mk H
                   clear H
                   obtain ⟨hcz275, hcz276, hcz277, hcz278, hfz275, hfz276, hfz277, hfz278⟩ := cz4 BK1
                   obtain ⟨hcz279, hcz280, hfz279, hfz280⟩ := cz2 BK2
                   obtain ⟨hcz281, hcz282, hcz283, hcz284, hfz281, hfz282, hfz283, hfz284⟩ := cz4 BK4
                   have hnb285 := NB1_2.out
                   have hnc285 := NB2_1.out
                   have hnb286 := NB1_4.out
                   have hnc286 := NB4_1.out
                   have hnb287 := NB2_4.out
                   have hnc287 := NB4_2.out
                   go_wp2_with (first | (go_at_call 64; (with_reducible refine (impl_SpanMul.calls k1 s0 s1 t0 t1 r1 r2 r3 _ A9.out).mono ?_); rintro e w9 ⟨rfl, hb⟩; replace BK1 := bb (bk BK1) hb; replace BK2 := bb (bk BK2) hb; replace BK4 := bb (bk BK4) hb; replace HB := hbb (hzs HB) hb; clear hb; obtain ⟨hcz288, hcz289, hfz288, hfz289⟩ := cz2 BK2))
                   refine bodyPost_ret (results_ct rfl _ _ g2 31 #[.int .i64 r1, .int .i64 r2] (0, 0) _ rfl (bkp BK2) Try.underlying31 rfl (by kernel_rfl)) rfl ?_
                   exact ⟨by first | rfl | (simp [errW_none, errW_some] <;> rfl) | (simp [*, errW_none, errW_some] <;> rfl), hzs HB⟩
                 · rw [if_neg d7] at H
                   have d7b0 : (a0_0 == 7) = false := beq_eq_false_iff_ne.mpr d7
                   have d7b1 : (a0_0 != 7) = true := bne_iff_ne.mpr d7
                   clear d7
                   have A9 := Aside0.mk H
                   clear H
                   obtain ⟨hcz290, hcz291, hcz292, hcz293, hfz290, hfz291, hfz292, hfz293⟩ := cz4 BK1
                   obtain ⟨hcz294, hcz295, hfz294, hfz295⟩ := cz2 BK2
                   obtain ⟨hcz296, hcz297, hcz298, hcz299, hfz296, hfz297, hfz298, hfz299⟩ := cz4 BK4
                   have hnb300 := NB1_2.out
                   have hnc300 := NB2_1.out
                   have hnb301 := NB1_4.out
                   have hnc301 := NB4_1.out
                   have hnb302 := NB2_4.out
                   have hnc302 := NB4_2.out
                   go_wp2_with (first | (go_at_call 65; (with_reducible refine (impl_SpanDiv.calls k1 s0 s1 t0 t1 r1 r2 r3 _ A9.out).mono ?_); rintro e w9 ⟨rfl, hb⟩; replace BK1 := bb (bk BK1) hb; replace BK2 := bb (bk BK2) hb; replace BK4 := bb (bk BK4) hb; replace HB := hbb (hzs HB) hb; clear hb; obtain ⟨hcz303, hcz304, hfz303, hfz304⟩ := cz2 BK2))
                   refine bodyPost_ret (results_ct rfl _ _ g2 31 #[.int .i64 r1, .int .i64 r2] (0, 0) _ rfl (bkp BK2) Try.underlying31 rfl (by kernel_rfl)) rfl ?_
                   exact ⟨by first | rfl | (simp [errW_none, errW_some] <;> rfl) | (simp [*, errW_none, errW_some] <;> rfl), hzs HB⟩

/-! ### impl_ExprSpan: function 18 -/
def impl_ExprSpan.f (k : Nat) (a0_0 : Int) (a0_1 : Int) (a0_2 : Int) (l0_3 : List (S25)) : Option (Int × Int × Bool) := (impl_ExprOk.f k a0_0 a0_1 a0_2 l0_3).bind fun t445 => (if t445 = true then ((impl_Expr_span.f k a0_0 a0_1 a0_2 l0_3).bind fun bt446 => (some (bt446.1, bt446.2.1, bt446.2.2))) else (some (0, 0, false)))
set_option maxHeartbeats 8000000 in
set_option maxRecDepth 100000 in
theorem impl_ExprSpan.calls (k : Nat) (a0_0 : Int) (a0_1 : Int) (a0_2 : Int) (A0_3 : Option Addr) (c0_3 : Nat) (l0_3 : List (S25)) (r1 : Int) (r2 : Int) (r3 : Bool) (w : World) (hr0_3 : Kd.C k25 w A0_3 l0_3.length l0_3) (hc0_3 : l0_3.length ≤ c0_3) (h : impl_ExprSpan.f k a0_0 a0_1 a0_2 l0_3 = some (r1, r2, r3)) :
  Calls Try.prog 18 #[.agg #[.int .i64 a0_0, .int .i64 a0_1, .int .i64 a0_2, .slice A0_3 l0_3.length c0_3]] w fun e w' => e = .returned (.tuple #[.agg #[.int .i64 r1, .int .i64 r2], .bool r3]) ∧ Below w.heap.size w w' := by
 have hu25 := Try.underlying25
 have hu31 := Try.underlying31
 have HR0_3 := Aside0.mk hr0_3
 have HC0_3 := Aside0.mk hc0_3
 clear hr0_3 hc0_3
 have HB := Aside0.mk (Below.refl w.heap.size w)
 have H := h
 clear h
 unfold impl_ExprSpan.f at H
 replace H := Option.bind_eq_some_iff.mp H
 obtain ⟨t445, A20, H⟩ := H
 try dsimp only at H
 have A2 := Aside0.mk A20
 clear A20
 by_cases c3 : t445 = true
 ·subst c3
  rw [if_pos rfl] at H
  replace H := Option.bind_eq_some_iff.mp H
  obtain ⟨⟨t446, t447, t448⟩, A40, H⟩ := H
  try dsimp only at H
  have A4 := Aside0.mk A40
  clear A40
  simp only [Option.some.injEq, Prod.mk.injEq] at H
  obtain ⟨rfl, rfl, rfl⟩ := H
  go_enter Try.func18, Try.ntmps18
  go_wp2_with (first | ((with_reducible refine gate_dst (N := 1) rfl ?_); refine bE 1 #[.int .i64 a0_0, .int .i64 a0_1, .int .i64 a0_2, .slice A0_3 l0_3.length c0_3] 25 ?_; intro gb443 hg w5 hbox hb; have BK443 := Aside0.mk (hbox); have GE443 := gw hg (hz0 HB); have GW443 := GE443; replace HB := hbb (hz0 HB) hb; clear hb hbox hg) | ((with_reducible refine gate_dst (N := 2) rfl ?_); refine bE 2 #[.int .i64 0, .int .i64 0] 31 ?_; intro gb444 hg w6 hbox hb; have BK444 := Aside0.mk (hbox); have GE444 := gw hg (hzs HB); have GW444 := GE444; have NB443_444 := nl hg (bk BK443); have NB444_443 := ng hg (bk BK443); replace BK443 := bb (bk BK443) hb; replace HB := hbb (hzs HB) hb; clear hb hbox hg; have hnb7 := NB443_444.out; have hnc7 := NB444_443.out; obtain ⟨hcz8_0, hcz8_1, hcz8_2, hcz8_3, hfz8_0, hfz8_1, hfz8_2, hfz8_3⟩ := cz4 BK443) | ((with_reducible refine gate_callee (f := 23) rfl ?_); refine gL 5 Try.func23 #[.agg #[.int .i64 a0_0, .int .i64 a0_1, .int .i64 a0_2, .slice A0_3 l0_3.length c0_3]] ?_; (with_reducible refine (impl_ExprOk.calls k a0_0 a0_1 a0_2 _ _ l0_3 true _ ?side1 ?side2 A2.out).mono ?_); (case side1 => repeat (first | exact (Kd.C_below HR0_3.out HB.out) | (with_reducible refine Kd.C_alloc ?_ _) | (with_reducible refine Kd.C_drewN ?_ _) | (with_reducible refine Kd.C_drew ?_))); (case side2 => exact HC0_3.out); rintro e w9 ⟨rfl, hb⟩; refine ⟨_, rfl, ?_⟩; replace BK443 := bb (bk BK443) hb; replace BK444 := bb (bk BK444) hb; replace HB := hbb (hzs HB) hb; clear hb; obtain ⟨hcz10_0, hcz10_1, hcz10_2, hcz10_3, hfz10_0, hfz10_1, hfz10_2, hfz10_3⟩ := cz4 BK443) | ((with_reducible refine gate_callee (f := 41) rfl ?_); refine gL 9 Try.func41 #[.agg #[.int .i64 a0_0, .int .i64 a0_1, .int .i64 a0_2, .slice A0_3 l0_3.length c0_3]] ?_; (with_reducible refine (impl_Expr_span.calls k a0_0 a0_1 a0_2 _ _ l0_3 t446 t447 t448 _ ?side1 ?side2 A4.out).mono ?_); (case side1 => repeat (first | exact (Kd.C_below HR0_3.out HB.out) | (with_reducible refine Kd.C_alloc ?_ _) | (with_reducible refine Kd.C_drewN ?_ _) | (with_reducible refine Kd.C_drew ?_))); (case side2 => exact HC0_3.out); rintro e w11 ⟨rfl, hb⟩; refine ⟨_, rfl, ?_⟩; replace BK443 := bb (bk BK443) hb; replace BK444 := bb (bk BK444) hb; replace HB := hbb (hzs HB) hb; clear hb; obtain ⟨hcz12_0, hcz12_1, hfz12_0, hfz12_1⟩ := cz2 BK444))
  refine bodyPost_ret (results_ct rfl _ _ gb444 31 #[.int .i64 t446, .int .i64 t447] (0, 0) _ rfl (bkp BK444) Try.underlying31 rfl (by kernel_rfl)) rfl ?_
  exact ⟨by first | rfl | (simp [errW_none, errW_some] <;> rfl) | (simp [*, errW_none, errW_some] <;> rfl), hzs HB⟩
 ·replace c3 := Bool.eq_false_iff.mpr c3
  subst c3
  rw [if_neg (show ¬ (false = true) by decide)] at H
  simp only [Option.some.injEq, Prod.mk.injEq] at H
  obtain ⟨rfl, rfl, rfl⟩ := H
  go_enter Try.func18, Try.ntmps18
  go_wp2_with (first | ((with_reducible refine gate_dst (N := 1) rfl ?_); refine bE 1 #[.int .i64 a0_0, .int .i64 a0_1, .int .i64 a0_2, .slice A0_3 l0_3.length c0_3] 25 ?_; intro gb443 hg w13 hbox hb; have BK443 := Aside0.mk (hbox); have GE443 := gw hg (hz0 HB); have GW443 := GE443; replace HB := hbb (hz0 HB) hb; clear hb hbox hg) | ((with_reducible refine gate_dst (N := 2) rfl ?_); refine bE 2 #[.int .i64 0, .int .i64 0] 31 ?_; intro gb444 hg w14 hbox hb; have BK444 := Aside0.mk (hbox); have GE444 := gw hg (hzs HB); have GW444 := GE444; have NB443_444 := nl hg (bk BK443); have NB444_443 := ng hg (bk BK443); replace BK443 := bb (bk BK443) hb; replace HB := hbb (hzs HB) hb; clear hb hbox hg; have hnb15 := NB443_444.out; have hnc15 := NB444_443.out; obtain ⟨hcz16_0, hcz16_1, hcz16_2, hcz16_3, hfz16_0, hfz16_1, hfz16_2, hfz16_3⟩ := cz4 BK443) | ((with_reducible refine gate_callee (f := 23) rfl ?_); refine gL 5 Try.func23 #[.agg #[.int .i64 a0_0, .int .i64 a0_1, .int .i64 a0_2, .slice A0_3 l0_3.length c0_3]] ?_; (with_reducible refine (impl_ExprOk.calls k a0_0 a0_1 a0_2 _ _ l0_3 false _ ?side1 ?side2 A2.out).mono ?_); (case side1 => repeat (first | exact (Kd.C_below HR0_3.out HB.out) | (with_reducible refine Kd.C_alloc ?_ _) | (with_reducible refine Kd.C_drewN ?_ _) | (with_reducible refine Kd.C_drew ?_))); (case side2 => exact HC0_3.out); rintro e w17 ⟨rfl, hb⟩; refine ⟨_, rfl, ?_⟩; replace BK443 := bb (bk BK443) hb; replace BK444 := bb (bk BK444) hb; replace HB := hbb (hzs HB) hb; clear hb; obtain ⟨hcz18_0, hcz18_1, hfz18_0, hfz18_1⟩ := cz2 BK444))
  refine bodyPost_ret (results_ct rfl _ _ gb444 31 #[.int .i64 0, .int .i64 0] (0, 0) _ rfl (bkp BK444) Try.underlying31 rfl (by kernel_rfl)) rfl ?_
  exact ⟨by first | rfl | (simp [errW_none, errW_some] <;> rfl) | (simp [*, errW_none, errW_some] <;> rfl), hzs HB⟩


end Go.Proofs.Ytlodpfddimeffaa.M

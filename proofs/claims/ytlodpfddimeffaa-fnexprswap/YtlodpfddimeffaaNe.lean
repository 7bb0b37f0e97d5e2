import Derived.Test.YtlodpfddimeffaaM0
import Derived.Test.YtlodpfddimeffaaNa
import Derived.Test.YtlodpfddimeffaaNc
namespace Go.Proofs.Ytlodpfddimeffaa.M
open Go.RowKit Go.Proofs.YtlodpfddimeffaaW.PrintWords Go.Proofs.YtlodpfddimeffaaW.PrintLast Go.Proofs.YtlodpfddimeffaaW.PrintMore
attribute [local go_sem] max2_int min2_int max_two min_two max_three min_three max_four min_four
attribute [local go_sem high] eqA31
attribute [local go_sem] fld31_0 fld31_1 fld25_0 fld25_1 fld25_2 fld25_3
set_option linter.unusedVariables false
set_option linter.unusedSimpArgs false

/-! ### spec_SpanDiv: function 81 -/
def spec_SpanDiv.j0 : Nat → Bool → Int → Int → Int → Int → Option (Int × Int × Bool)
 | 0, _, _, _, _, _ => none
 | k + 1, x35, x225000, x225001, x226000, x226001 => if x35 = true then (some (0, 0, false)) else ((spec_l2Over.f x225000 x226000).bind fun bt229 => ((spec_l2Over.f x225000 x226001).bind fun bt231 => ((spec_l2Over.f x225001 x226000).bind fun bt233 => ((spec_l2Over.f x225001 x226001).bind fun bt235 => ((spec_l2Four.f bt229.1 bt231.1 bt233.1 bt235.1).bind fun bt237 => ((spec_l2Four.f bt229.2 bt231.2 bt233.2 bt235.2).bind fun bt239 => ((spec_l2Fit.f bt237.1 bt239.2).bind fun bt241 => (some (bt241.1, bt241.2.1, bt241.2.2)))))))))
def spec_SpanDiv.f (k : Nat) (a0_0 : Int) (a0_1 : Int) (a1_0 : Int) (a1_1 : Int) : Option (Int × Int × Bool) := (spec_SpanOk.f a0_0 a0_1).bind fun t227 => (if t227 = true then ((spec_SpanOk.f a1_0 a1_1).bind fun t228 => (if t228 = true then (if a1_0 ≤ 0 then (spec_SpanDiv.j0 k (decide (a1_1 ≥ 0)) a0_0 a0_1 a1_0 a1_1) else (spec_SpanDiv.j0 k false a0_0 a0_1 a1_0 a1_1)) else (spec_SpanDiv.j0 k true a0_0 a0_1 a1_0 a1_1))) else (spec_SpanDiv.j0 k true a0_0 a0_1 a1_0 a1_1))
set_option maxHeartbeats 8000000 in
set_option maxRecDepth 100000 in
theorem spec_SpanDiv.p1 (a0_0 a0_1 a1_0 a1_1 : Int) (w : World)
    (q0 : spec_SpanOk.f a0_0 a0_1 = some false) :
    Calls Try.prog 81 #[.agg #[.int .i64 a0_0, .int .i64 a0_1], .agg #[.int .i64 a1_0, .int .i64 a1_1]] w fun e w' => e = .returned (.tuple #[.agg #[.int .i64 0, .int .i64 0], .bool false]) ∧ Below w.heap.size w w' := by
  have hu31 := Try.underlying31
  have Q0 := Aside0.mk q0
  clear q0
  have HB := Aside0.mk (Below.refl w.heap.size w)
  go_enter Try.func81, Try.ntmps81
  go_wp2_with (first | ((with_reducible refine gate_dst (N := 2) rfl ?_); refine bE 2 #[.int .i64 a0_0, .int .i64 a0_1] 31 ?_; intro g2 hg w2 hbox hb; have BK2 := Aside0.mk hbox; have GE2 := gw hg (hzs HB); replace HB := hbb (hzs HB) hb; clear hb hbox hg) | ((with_reducible refine gate_dst (N := 3) rfl ?_); refine bE 3 #[.int .i64 a1_0, .int .i64 a1_1] 31 ?_; intro g3 hg w3 hbox hb; have BK3 := Aside0.mk hbox; have GE3 := gw hg (hzs HB); have NB2_3 := nl hg (bk BK2); have NB3_2 := ng hg (bk BK2); replace BK2 := bb (bk BK2) hb; replace HB := hbb (hzs HB) hb; clear hb hbox hg) | ((with_reducible refine gate_dst (N := 4) rfl ?_); refine bE 4 #[.int .i64 0, .int .i64 0] 31 ?_; intro g4 hg w4 hbox hb; have BK4 := Aside0.mk hbox; have GE4 := gw hg (hzs HB); have NB2_4 := nl hg (bk BK2); have NB4_2 := ng hg (bk BK2); have NB3_4 := nl hg (bk BK3); have NB4_3 := ng hg (bk BK3); replace BK2 := bb (bk BK2) hb; replace BK3 := bb (bk BK3) hb; replace HB := hbb (hzs HB) hb; clear hb hbox hg; obtain ⟨hcz4_0, hcz4_1, hfz4_0, hfz4_1⟩ := cz2 BK2; obtain ⟨hcz5_0, hcz5_1, hfz5_0, hfz5_1⟩ := cz2 BK3; obtain ⟨hcz6_0, hcz6_1, hfz6_0, hfz6_1⟩ := cz2 BK4) | (go_at_call 56; (with_reducible refine (spec_SpanOk.calls a0_0 a0_1 false _ Q0.out).mono ?_); rintro e w5 ⟨rfl, hb⟩; replace BK2 := bb (bk BK2) hb; replace BK3 := bb (bk BK3) hb; replace BK4 := bb (bk BK4) hb; replace HB := hbb (hzs HB) hb; clear hb; obtain ⟨hcz1_0, hcz1_1, hfz1_0, hfz1_1⟩ := cz2 BK2; obtain ⟨hcz2_0, hcz2_1, hfz2_0, hfz2_1⟩ := cz2 BK3; obtain ⟨hcz3_0, hcz3_1, hfz3_0, hfz3_1⟩ := cz2 BK4))
  refine bodyPost_ret (results_ct rfl _ _ g4 31 #[.int .i64 0, .int .i64 0] (0, 0) _ rfl (bkp BK4) Try.underlying31 rfl (by kernel_rfl)) rfl ?_
  exact ⟨by first | rfl | (simp; done) | (simp [*]; done), hzs HB⟩
set_option maxHeartbeats 8000000 in
set_option maxRecDepth 100000 in
theorem spec_SpanDiv.p2 (a0_0 a0_1 a1_0 a1_1 : Int) (w : World)
    (q0 : spec_SpanOk.f a0_0 a0_1 = some true)
    (q1 : spec_SpanOk.f a1_0 a1_1 = some false) :
    Calls Try.prog 81 #[.agg #[.int .i64 a0_0, .int .i64 a0_1], .agg #[.int .i64 a1_0, .int .i64 a1_1]] w fun e w' => e = .returned (.tuple #[.agg #[.int .i64 0, .int .i64 0], .bool false]) ∧ Below w.heap.size w w' := by
  have hu31 := Try.underlying31
  have Q0 := Aside0.mk q0
  have Q1 := Aside0.mk q1
  clear q0 q1
  have HB := Aside0.mk (Below.refl w.heap.size w)
  go_enter Try.func81, Try.ntmps81
  go_wp2_with (first | ((with_reducible refine gate_dst (N := 2) rfl ?_); refine bE 2 #[.int .i64 a0_0, .int .i64 a0_1] 31 ?_; intro g2 hg w2 hbox hb; have BK2 := Aside0.mk hbox; have GE2 := gw hg (hzs HB); replace HB := hbb (hzs HB) hb; clear hb hbox hg) | ((with_reducible refine gate_dst (N := 3) rfl ?_); refine bE 3 #[.int .i64 a1_0, .int .i64 a1_1] 31 ?_; intro g3 hg w3 hbox hb; have BK3 := Aside0.mk hbox; have GE3 := gw hg (hzs HB); have NB2_3 := nl hg (bk BK2); have NB3_2 := ng hg (bk BK2); replace BK2 := bb (bk BK2) hb; replace HB := hbb (hzs HB) hb; clear hb hbox hg) | ((with_reducible refine gate_dst (N := 4) rfl ?_); refine bE 4 #[.int .i64 0, .int .i64 0] 31 ?_; intro g4 hg w4 hbox hb; have BK4 := Aside0.mk hbox; have GE4 := gw hg (hzs HB); have NB2_4 := nl hg (bk BK2); have NB4_2 := ng hg (bk BK2); have NB3_4 := nl hg (bk BK3); have NB4_3 := ng hg (bk BK3); replace BK2 := bb (bk BK2) hb; replace BK3 := bb (bk BK3) hb; replace HB := hbb (hzs HB) hb; clear hb hbox hg; obtain ⟨hcz13_0, hcz13_1, hfz13_0, hfz13_1⟩ := cz2 BK2; obtain ⟨hcz14_0, hcz14_1, hfz14_0, hfz14_1⟩ := cz2 BK3; obtain ⟨hcz15_0, hcz15_1, hfz15_0, hfz15_1⟩ := cz2 BK4) | (go_at_call 56; (with_reducible refine (spec_SpanOk.calls a0_0 a0_1 true _ Q0.out).mono ?_); rintro e w5 ⟨rfl, hb⟩; replace BK2 := bb (bk BK2) hb; replace BK3 := bb (bk BK3) hb; replace BK4 := bb (bk BK4) hb; replace HB := hbb (hzs HB) hb; clear hb; obtain ⟨hcz7_0, hcz7_1, hfz7_0, hfz7_1⟩ := cz2 BK2; obtain ⟨hcz8_0, hcz8_1, hfz8_0, hfz8_1⟩ := cz2 BK3; obtain ⟨hcz9_0, hcz9_1, hfz9_0, hfz9_1⟩ := cz2 BK4) | (go_at_call 56; (with_reducible refine (spec_SpanOk.calls a1_0 a1_1 false _ Q1.out).mono ?_); rintro e w6 ⟨rfl, hb⟩; replace BK2 := bb (bk BK2) hb; replace BK3 := bb (bk BK3) hb; replace BK4 := bb (bk BK4) hb; replace HB := hbb (hzs HB) hb; clear hb; obtain ⟨hcz10_0, hcz10_1, hfz10_0, hfz10_1⟩ := cz2 BK2; obtain ⟨hcz11_0, hcz11_1, hfz11_0, hfz11_1⟩ := cz2 BK3; obtain ⟨hcz12_0, hcz12_1, hfz12_0, hfz12_1⟩ := cz2 BK4))
  refine bodyPost_ret (results_ct rfl _ _ g4 31 #[.int .i64 0, .int .i64 0] (0, 0) _ rfl (bkp BK4) Try.underlying31 rfl (by kernel_rfl)) rfl ?_
  exact ⟨by first | rfl | (simp; done) | (simp [*]; done), hzs HB⟩
set_option maxHeartbeats 8000000 in
set_option maxRecDepth 100000 in
theorem spec_SpanDiv.p3 (a0_0 a0_1 a1_0 a1_1 : Int) (w : World)
    (q0 : spec_SpanOk.f a0_0 a0_1 = some true)
    (q1 : spec_SpanOk.f a1_0 a1_1 = some true)
    (t0 : decide (a1_0 ≤ 0) = true)
    (t1 : decide (0 ≤ a1_1) = true) :
    Calls Try.prog 81 #[.agg #[.int .i64 a0_0, .int .i64 a0_1], .agg #[.int .i64 a1_0, .int .i64 a1_1]] w fun e w' => e = .returned (.tuple #[.agg #[.int .i64 0, .int .i64 0], .bool false]) ∧ Below w.heap.size w w' := by
  have hu31 := Try.underlying31
  have Q0 := Aside0.mk q0
  have Q1 := Aside0.mk q1
  clear q0 q1
  have HB := Aside0.mk (Below.refl w.heap.size w)
  go_enter Try.func81, Try.ntmps81
  go_wp2_with (first | ((with_reducible refine gate_dst (N := 2) rfl ?_); refine bE 2 #[.int .i64 a0_0, .int .i64 a0_1] 31 ?_; intro g2 hg w2 hbox hb; have BK2 := Aside0.mk hbox; have GE2 := gw hg (hzs HB); replace HB := hbb (hzs HB) hb; clear hb hbox hg) | ((with_reducible refine gate_dst (N := 3) rfl ?_); refine bE 3 #[.int .i64 a1_0, .int .i64 a1_1] 31 ?_; intro g3 hg w3 hbox hb; have BK3 := Aside0.mk hbox; have GE3 := gw hg (hzs HB); have NB2_3 := nl hg (bk BK2); have NB3_2 := ng hg (bk BK2); replace BK2 := bb (bk BK2) hb; replace HB := hbb (hzs HB) hb; clear hb hbox hg) | ((with_reducible refine gate_dst (N := 4) rfl ?_); refine bE 4 #[.int .i64 0, .int .i64 0] 31 ?_; intro g4 hg w4 hbox hb; have BK4 := Aside0.mk hbox; have GE4 := gw hg (hzs HB); have NB2_4 := nl hg (bk BK2); have NB4_2 := ng hg (bk BK2); have NB3_4 := nl hg (bk BK3); have NB4_3 := ng hg (bk BK3); replace BK2 := bb (bk BK2) hb; replace BK3 := bb (bk BK3) hb; replace HB := hbb (hzs HB) hb; clear hb hbox hg; obtain ⟨hcz22_0, hcz22_1, hfz22_0, hfz22_1⟩ := cz2 BK2; obtain ⟨hcz23_0, hcz23_1, hfz23_0, hfz23_1⟩ := cz2 BK3; obtain ⟨hcz24_0, hcz24_1, hfz24_0, hfz24_1⟩ := cz2 BK4) | (go_at_call 56; (with_reducible refine (spec_SpanOk.calls a0_0 a0_1 true _ Q0.out).mono ?_); rintro e w5 ⟨rfl, hb⟩; replace BK2 := bb (bk BK2) hb; replace BK3 := bb (bk BK3) hb; replace BK4 := bb (bk BK4) hb; replace HB := hbb (hzs HB) hb; clear hb; obtain ⟨hcz16_0, hcz16_1, hfz16_0, hfz16_1⟩ := cz2 BK2; obtain ⟨hcz17_0, hcz17_1, hfz17_0, hfz17_1⟩ := cz2 BK3; obtain ⟨hcz18_0, hcz18_1, hfz18_0, hfz18_1⟩ := cz2 BK4) | (go_at_call 56; (with_reducible refine (spec_SpanOk.calls a1_0 a1_1 true _ Q1.out).mono ?_); rintro e w6 ⟨rfl, hb⟩; replace BK2 := bb (bk BK2) hb; replace BK3 := bb (bk BK3) hb; replace BK4 := bb (bk BK4) hb; replace HB := hbb (hzs HB) hb; clear hb; obtain ⟨hcz19_0, hcz19_1, hfz19_0, hfz19_1⟩ := cz2 BK2; obtain ⟨hcz20_0, hcz20_1, hfz20_0, hfz20_1⟩ := cz2 BK3; obtain ⟨hcz21_0, hcz21_1, hfz21_0, hfz21_1⟩ := cz2 BK4))
  refine bodyPost_ret (results_ct rfl _ _ g4 31 #[.int .i64 0, .int .i64 0] (0, 0) _ rfl (bkp BK4) Try.underlying31 rfl (by kernel_rfl)) rfl ?_
  exact ⟨by first | rfl | (simp; done) | (simp [*]; done), hzs HB⟩
set_option maxHeartbeats 8000000 in
set_option maxRecDepth 100000 in
theorem spec_SpanDiv.p4 (a0_0 a0_1 a1_0 a1_1 : Int) (x1 x2 y1 y2 u1 u2 v1 v2 m1 m2 n1 n2 r1 r2 : Int) (r3 : Bool) (w : World)
    (q0 : spec_SpanOk.f a0_0 a0_1 = some true)
    (q1 : spec_SpanOk.f a1_0 a1_1 = some true)
    (q2 : spec_l2Over.f a0_0 a1_0 = some (x1, x2))
    (q3 : spec_l2Over.f a0_0 a1_1 = some (y1, y2))
    (q4 : spec_l2Over.f a0_1 a1_0 = some (u1, u2))
    (q5 : spec_l2Over.f a0_1 a1_1 = some (v1, v2))
    (q6 : spec_l2Four.f x1 y1 u1 v1 = some (m1, m2))
    (q7 : spec_l2Four.f x2 y2 u2 v2 = some (n1, n2))
    (q8 : spec_l2Fit.f m1 n2 = some (r1, r2, r3))
    (t0 : decide (a1_0 ≤ 0) = true)
    (t1 : decide (0 ≤ a1_1) = false) :
    Calls Try.prog 81 #[.agg #[.int .i64 a0_0, .int .i64 a0_1], .agg #[.int .i64 a1_0, .int .i64 a1_1]] w fun e w' => e = .returned (.tuple #[.agg #[.int .i64 r1, .int .i64 r2], .bool r3]) ∧ Below w.heap.size w w' := by
  have hu31 := Try.underlying31
  have Q0 := Aside0.mk q0
  have Q1 := Aside0.mk q1
  have Q2 := Aside0.mk q2
  have Q3 := Aside0.mk q3
  have Q4 := Aside0.mk q4
  have Q5 := Aside0.mk q5
  have Q6 := Aside0.mk q6
  have Q7 := Aside0.mk q7
  have Q8 := Aside0.mk q8
  clear q0 q1 q2 q3 q4 q5 q6 q7 q8
  have HB := Aside0.mk (Below.refl w.heap.size w)
  go_enter Try.func81, Try.ntmps81
  go_wp2_with (first | ((with_reducible refine gate_dst (N := 2) rfl ?_); refine bE 2 #[.int .i64 a0_0, .int .i64 a0_1] 31 ?_; intro g2 hg w2 hbox hb; have BK2 := Aside0.mk hbox; have GE2 := gw hg (hzs HB); replace HB := hbb (hzs HB) hb; clear hb hbox hg) | ((with_reducible refine gate_dst (N := 3) rfl ?_); refine bE 3 #[.int .i64 a1_0, .int .i64 a1_1] 31 ?_; intro g3 hg w3 hbox hb; have BK3 := Aside0.mk hbox; have GE3 := gw hg (hzs HB); have NB2_3 := nl hg (bk BK2); have NB3_2 := ng hg (bk BK2); replace BK2 := bb (bk BK2) hb; replace HB := hbb (hzs HB) hb; clear hb hbox hg) | ((with_reducible refine gate_dst (N := 4) rfl ?_); refine bE 4 #[.int .i64 0, .int .i64 0] 31 ?_; intro g4 hg w4 hbox hb; have BK4 := Aside0.mk hbox; have GE4 := gw hg (hzs HB); have NB2_4 := nl hg (bk BK2); have NB4_2 := ng hg (bk BK2); have NB3_4 := nl hg (bk BK3); have NB4_3 := ng hg (bk BK3); replace BK2 := bb (bk BK2) hb; replace BK3 := bb (bk BK3) hb; replace HB := hbb (hzs HB) hb; clear hb hbox hg; obtain ⟨hcz40_0, hcz40_1, hfz40_0, hfz40_1⟩ := cz2 BK2; obtain ⟨hcz41_0, hcz41_1, hfz41_0, hfz41_1⟩ := cz2 BK3; obtain ⟨hcz42_0, hcz42_1, hfz42_0, hfz42_1⟩ := cz2 BK4) | (go_at_call 56; (with_reducible refine (spec_SpanOk.calls a0_0 a0_1 true _ Q0.out).mono ?_); rintro e w5 ⟨rfl, hb⟩; replace BK2 := bb (bk BK2) hb; replace BK3 := bb (bk BK3) hb; replace BK4 := bb (bk BK4) hb; replace HB := hbb (hzs HB) hb; clear hb; obtain ⟨hcz25_0, hcz25_1, hfz25_0, hfz25_1⟩ := cz2 BK2; obtain ⟨hcz26_0, hcz26_1, hfz26_0, hfz26_1⟩ := cz2 BK3; obtain ⟨hcz27_0, hcz27_1, hfz27_0, hfz27_1⟩ := cz2 BK4) | (go_at_call 56; (with_reducible refine (spec_SpanOk.calls a1_0 a1_1 true _ Q1.out).mono ?_); rintro e w6 ⟨rfl, hb⟩; replace BK2 := bb (bk BK2) hb; replace BK3 := bb (bk BK3) hb; replace BK4 := bb (bk BK4) hb; replace HB := hbb (hzs HB) hb; clear hb; obtain ⟨hcz28_0, hcz28_1, hfz28_0, hfz28_1⟩ := cz2 BK2; obtain ⟨hcz29_0, hcz29_1, hfz29_0, hfz29_1⟩ := cz2 BK3; obtain ⟨hcz30_0, hcz30_1, hfz30_0, hfz30_1⟩ := cz2 BK4) | (go_at_call 100; (with_reducible refine (spec_l2Over.calls a0_0 a1_0 x1 x2 _ Q2.out).mono ?_); rintro e w' ⟨rfl, ⟨nd, rfl⟩⟩) | (go_at_call 100; (with_reducible refine (spec_l2Over.calls a0_0 a1_1 y1 y2 _ Q3.out).mono ?_); rintro e w' ⟨rfl, ⟨nd, rfl⟩⟩) | (go_at_call 100; (with_reducible refine (spec_l2Over.calls a0_1 a1_0 u1 u2 _ Q4.out).mono ?_); rintro e w' ⟨rfl, ⟨nd, rfl⟩⟩) | (go_at_call 100; (with_reducible refine (spec_l2Over.calls a0_1 a1_1 v1 v2 _ Q5.out).mono ?_); rintro e w' ⟨rfl, ⟨nd, rfl⟩⟩) | (go_at_call 99; (with_reducible refine (spec_l2Four.calls x1 y1 u1 v1 m1 m2 _ Q6.out).mono ?_); rintro e w7 ⟨rfl, hb⟩; replace BK2 := bb (bk BK2) hb; replace BK3 := bb (bk BK3) hb; replace BK4 := bb (bk BK4) hb; replace HB := hbb (hzs HB) hb; clear hb; obtain ⟨hcz31_0, hcz31_1, hfz31_0, hfz31_1⟩ := cz2 BK2; obtain ⟨hcz32_0, hcz32_1, hfz32_0, hfz32_1⟩ := cz2 BK3; obtain ⟨hcz33_0, hcz33_1, hfz33_0, hfz33_1⟩ := cz2 BK4) | (go_at_call 99; (with_reducible refine (spec_l2Four.calls x2 y2 u2 v2 n1 n2 _ Q7.out).mono ?_); rintro e w8 ⟨rfl, hb⟩; replace BK2 := bb (bk BK2) hb; replace BK3 := bb (bk BK3) hb; replace BK4 := bb (bk BK4) hb; replace HB := hbb (hzs HB) hb; clear hb; obtain ⟨hcz34_0, hcz34_1, hfz34_0, hfz34_1⟩ := cz2 BK2; obtain ⟨hcz35_0, hcz35_1, hfz35_0, hfz35_1⟩ := cz2 BK3; obtain ⟨hcz36_0, hcz36_1, hfz36_0, hfz36_1⟩ := cz2 BK4) | (go_at_call 94; (with_reducible refine (spec_l2Fit.calls m1 n2 r1 r2 r3 _ Q8.out).mono ?_); rintro e w9 ⟨rfl, hb⟩; replace BK2 := bb (bk BK2) hb; replace BK3 := bb (bk BK3) hb; replace BK4 := bb (bk BK4) hb; replace HB := hbb (hzs HB) hb; clear hb; obtain ⟨hcz37_0, hcz37_1, hfz37_0, hfz37_1⟩ := cz2 BK2; obtain ⟨hcz38_0, hcz38_1, hfz38_0, hfz38_1⟩ := cz2 BK3; obtain ⟨hcz39_0, hcz39_1, hfz39_0, hfz39_1⟩ := cz2 BK4))
  refine bodyPost_ret (results_ct rfl _ _ g4 31 #[.int .i64 r1, .int .i64 r2] (0, 0) _ rfl (bkp BK4) Try.underlying31 rfl (by kernel_rfl)) rfl ?_
  exact ⟨by first | rfl | (simp; done) | (simp [*]; done), hzs HB⟩
set_option maxHeartbeats 8000000 in
set_option maxRecDepth 100000 in
theorem spec_SpanDiv.p5 (a0_0 a0_1 a1_0 a1_1 : Int) (x1 x2 y1 y2 u1 u2 v1 v2 m1 m2 n1 n2 r1 r2 : Int) (r3 : Bool) (w : World)
    (q0 : spec_SpanOk.f a0_0 a0_1 = some true)
    (q1 : spec_SpanOk.f a1_0 a1_1 = some true)
    (q2 : spec_l2Over.f a0_0 a1_0 = some (x1, x2))
    (q3 : spec_l2Over.f a0_0 a1_1 = some (y1, y2))
    (q4 : spec_l2Over.f a0_1 a1_0 = some (u1, u2))
    (q5 : spec_l2Over.f a0_1 a1_1 = some (v1, v2))
    (q6 : spec_l2Four.f x1 y1 u1 v1 = some (m1, m2))
    (q7 : spec_l2Four.f x2 y2 u2 v2 = some (n1, n2))
    (q8 : spec_l2Fit.f m1 n2 = some (r1, r2, r3))
    (t0 : decide (a1_0 ≤ 0) = false) :
    Calls Try.prog 81 #[.agg #[.int .i64 a0_0, .int .i64 a0_1], .agg #[.int .i64 a1_0, .int .i64 a1_1]] w fun e w' => e = .returned (.tuple #[.agg #[.int .i64 r1, .int .i64 r2], .bool r3]) ∧ Below w.heap.size w w' := by
  have hu31 := Try.underlying31
  have Q0 := Aside0.mk q0
  have Q1 := Aside0.mk q1
  have Q2 := Aside0.mk q2
  have Q3 := Aside0.mk q3
  have Q4 := Aside0.mk q4
  have Q5 := Aside0.mk q5
  have Q6 := Aside0.mk q6
  have Q7 := Aside0.mk q7
  have Q8 := Aside0.mk q8
  clear q0 q1 q2 q3 q4 q5 q6 q7 q8
  have HB := Aside0.mk (Below.refl w.heap.size w)
  go_enter Try.func81, Try.ntmps81
  go_wp2_with (first | ((with_reducible refine gate_dst (N := 2) rfl ?_); refine bE 2 #[.int .i64 a0_0, .int .i64 a0_1] 31 ?_; intro g2 hg w2 hbox hb; have BK2 := Aside0.mk hbox; have GE2 := gw hg (hzs HB); replace HB := hbb (hzs HB) hb; clear hb hbox hg) | ((with_reducible refine gate_dst (N := 3) rfl ?_); refine bE 3 #[.int .i64 a1_0, .int .i64 a1_1] 31 ?_; intro g3 hg w3 hbox hb; have BK3 := Aside0.mk hbox; have GE3 := gw hg (hzs HB); have NB2_3 := nl hg (bk BK2); have NB3_2 := ng hg (bk BK2); replace BK2 := bb (bk BK2) hb; replace HB := hbb (hzs HB) hb; clear hb hbox hg) | ((with_reducible refine gate_dst (N := 4) rfl ?_); refine bE 4 #[.int .i64 0, .int .i64 0] 31 ?_; intro g4 hg w4 hbox hb; have BK4 := Aside0.mk hbox; have GE4 := gw hg (hzs HB); have NB2_4 := nl hg (bk BK2); have NB4_2 := ng hg (bk BK2); have NB3_4 := nl hg (bk BK3); have NB4_3 := ng hg (bk BK3); replace BK2 := bb (bk BK2) hb; replace BK3 := bb (bk BK3) hb; replace HB := hbb (hzs HB) hb; clear hb hbox hg; obtain ⟨hcz43_0, hcz43_1, hfz43_0, hfz43_1⟩ := cz2 BK2; obtain ⟨hcz44_0, hcz44_1, hfz44_0, hfz44_1⟩ := cz2 BK3; obtain ⟨hcz45_0, hcz45_1, hfz45_0, hfz45_1⟩ := cz2 BK4) | (go_at_call 56; (with_reducible refine (spec_SpanOk.calls a0_0 a0_1 true _ Q0.out).mono ?_); rintro e w5 ⟨rfl, hb⟩; replace BK2 := bb (bk BK2) hb; replace BK3 := bb (bk BK3) hb; replace BK4 := bb (bk BK4) hb; replace HB := hbb (hzs HB) hb; clear hb; obtain ⟨hcz25_0, hcz25_1, hfz25_0, hfz25_1⟩ := cz2 BK2; obtain ⟨hcz26_0, hcz26_1, hfz26_0, hfz26_1⟩ := cz2 BK3; obtain ⟨hcz27_0, hcz27_1, hfz27_0, hfz27_1⟩ := cz2 BK4) | (go_at_call 56; (with_reducible refine (spec_SpanOk.calls a1_0 a1_1 true _ Q1.out).mono ?_); rintro e w6 ⟨rfl, hb⟩; replace BK2 := bb (bk BK2) hb; replace BK3 := bb (bk BK3) hb; replace BK4 := bb (bk BK4) hb; replace HB := hbb (hzs HB) hb; clear hb; obtain ⟨hcz28_0, hcz28_1, hfz28_0, hfz28_1⟩ := cz2 BK2; obtain ⟨hcz29_0, hcz29_1, hfz29_0, hfz29_1⟩ := cz2 BK3; obtain ⟨hcz30_0, hcz30_1, hfz30_0, hfz30_1⟩ := cz2 BK4) | (go_at_call 100; (with_reducible refine (spec_l2Over.calls a0_0 a1_0 x1 x2 _ Q2.out).mono ?_); rintro e w' ⟨rfl, ⟨nd, rfl⟩⟩) | (go_at_call 100; (with_reducible refine (spec_l2Over.calls a0_0 a1_1 y1 y2 _ Q3.out).mono ?_); rintro e w' ⟨rfl, ⟨nd, rfl⟩⟩) | (go_at_call 100; (with_reducible refine (spec_l2Over.calls a0_1 a1_0 u1 u2 _ Q4.out).mono ?_); rintro e w' ⟨rfl, ⟨nd, rfl⟩⟩) | (go_at_call 100; (with_reducible refine (spec_l2Over.calls a0_1 a1_1 v1 v2 _ Q5.out).mono ?_); rintro e w' ⟨rfl, ⟨nd, rfl⟩⟩) | (go_at_call 99; (with_reducible refine (spec_l2Four.calls x1 y1 u1 v1 m1 m2 _ Q6.out).mono ?_); rintro e w7 ⟨rfl, hb⟩; replace BK2 := bb (bk BK2) hb; replace BK3 := bb (bk BK3) hb; replace BK4 := bb (bk BK4) hb; replace HB := hbb (hzs HB) hb; clear hb; obtain ⟨hcz31_0, hcz31_1, hfz31_0, hfz31_1⟩ := cz2 BK2; obtain ⟨hcz32_0, hcz32_1, hfz32_0, hfz32_1⟩ := cz2 BK3; obtain ⟨hcz33_0, hcz33_1, hfz33_0, hfz33_1⟩ := cz2 BK4) | (go_at_call 99; (with_reducible refine (spec_l2Four.calls x2 y2 u2 v2 n1 n2 _ Q7.out).mono ?_); rintro e w8 ⟨rfl, hb⟩; replace BK2 := bb (bk BK2) hb; replace BK3 := bb (bk BK3) hb; replace BK4 := bb (bk BK4) hb; replace HB := hbb (hzs HB) hb; clear hb; obtain ⟨hcz34_0, hcz34_1, hfz34_0, hfz34_1⟩ := cz2 BK2; obtain ⟨hcz35_0, hcz35_1, hfz35_0, hfz35_1⟩ := cz2 BK3; obtain ⟨hcz36_0, hcz36_1, hfz36_0, hfz36_1⟩ := cz2 BK4) | (go_at_call 94; (with_reducible refine (spec_l2Fit.calls m1 n2 r1 r2 r3 _ Q8.out).mono ?_); rintro e w9 ⟨rfl, hb⟩; replace BK2 := bb (bk BK2) hb; replace BK3 := bb (bk BK3) hb; replace BK4 := bb (bk BK4) hb; replace HB := hbb (hzs HB) hb; clear hb; obtain ⟨hcz37_0, hcz37_1, hfz37_0, hfz37_1⟩ := cz2 BK2; obtain ⟨hcz38_0, hcz38_1, hfz38_0, hfz38_1⟩ := cz2 BK3; obtain ⟨hcz39_0, hcz39_1, hfz39_0, hfz39_1⟩ := cz2 BK4))
  refine bodyPost_ret (results_ct rfl _ _ g4 31 #[.int .i64 r1, .int .i64 r2] (0, 0) _ rfl (bkp BK4) Try.underlying31 rfl (by kernel_rfl)) rfl ?_
  exact ⟨by first | rfl | (simp; done) | (simp [*]; done), hzs HB⟩
theorem spec_SpanDiv.calls (k : Nat) (a0_0 : Int) (a0_1 : Int) (a1_0 : Int) (a1_1 : Int) (r1 : Int) (r2 : Int) (r3 : Bool) (w : World) (h : spec_SpanDiv.f k a0_0 a0_1 a1_0 a1_1 = some (r1, r2, r3)) :
    Calls Try.prog 81 #[.agg #[.int .i64 a0_0, .int .i64 a0_1], .agg #[.int .i64 a1_0, .int .i64 a1_1]] w fun e w' => e = .returned (.tuple #[.agg #[.int .i64 r1, .int .i64 r2], .bool r3]) ∧ Below w.heap.size w w' := by
  unfold spec_SpanDiv.f at h
  have bad : spec_SpanDiv.j0 k true a0_0 a0_1 a1_0 a1_1 = some (r1, r2, r3) → r1 = 0 ∧ r2 = 0 ∧ r3 = false := by
    intro h
    cases k with
    | zero => simp [spec_SpanDiv.j0] at h
    | succ k => rw [spec_SpanDiv.j0, if_pos rfl] at h; simp only [Option.some.injEq, Prod.mk.injEq] at h; exact ⟨h.1.symm, h.2.1.symm, h.2.2.symm⟩
  simp only [Option.bind_eq_some_iff] at h
  obtain ⟨b1, q1, h⟩ := h
  cases b1 with
  | false =>
    rw [if_neg (by decide)] at h
    obtain ⟨rfl, rfl, rfl⟩ := bad h
    exact spec_SpanDiv.p1 _ _ _ _ w q1
  | true =>
    rw [if_pos rfl] at h
    simp only [Option.bind_eq_some_iff] at h
    obtain ⟨b2, q2, h⟩ := h
    cases b2 with
    | false =>
      rw [if_neg (by decide)] at h
      obtain ⟨rfl, rfl, rfl⟩ := bad h
      exact spec_SpanDiv.p2 _ _ _ _ w q1 q2
    | true =>
      rw [if_pos rfl] at h
      have good : spec_SpanDiv.j0 k false a0_0 a0_1 a1_0 a1_1 = some (r1, r2, r3) → ∃ x y u v m n, spec_l2Over.f a0_0 a1_0 = some x ∧ spec_l2Over.f a0_0 a1_1 = some y ∧ spec_l2Over.f a0_1 a1_0 = some u ∧ spec_l2Over.f a0_1 a1_1 = some v ∧
          spec_l2Four.f x.1 y.1 u.1 v.1 = some m ∧ spec_l2Four.f x.2 y.2 u.2 v.2 = some n ∧ spec_l2Fit.f m.1 n.2 = some (r1, r2, r3) := by
        intro h
        cases k with
        | zero => simp [spec_SpanDiv.j0] at h
        | succ k =>
          rw [spec_SpanDiv.j0, if_neg (by decide)] at h
          simp only [Option.bind_eq_some_iff] at h
          obtain ⟨x, hx, y, hy, u, hu, v, hv, m, hm, n, hn, ⟨c1, c2, c3⟩, hf, e⟩ := h
          simp only [Option.some.injEq, Prod.mk.injEq] at e
          obtain ⟨rfl, rfl, rfl⟩ := e
          exact ⟨x, y, u, v, m, n, hx, hy, hu, hv, hm, hn, hf⟩
      by_cases c1 : a1_0 ≤ 0
      · rw [if_pos c1] at h
        by_cases c2 : a1_1 ≥ 0
        · rw [decide_eq_true c2] at h
          obtain ⟨rfl, rfl, rfl⟩ := bad h
          exact spec_SpanDiv.p3 _ _ _ _ w q1 q2 (decide_eq_true c1) (decide_eq_true c2)
        · rw [decide_eq_false c2] at h
          obtain ⟨⟨x1, x2⟩, ⟨y1, y2⟩, ⟨u1, u2⟩, ⟨v1, v2⟩, ⟨m1, m2⟩, ⟨n1, n2⟩, hx, hy, hu, hv, hm, hn, hf⟩ := good h
          exact spec_SpanDiv.p4 _ _ _ _ _ _ _ _ _ _ _ _ _ _ _ _ _ _ _ w q1 q2 hx hy hu hv hm hn hf (decide_eq_true c1) (decide_eq_false c2)
      · rw [if_neg c1] at h
        obtain ⟨⟨x1, x2⟩, ⟨y1, y2⟩, ⟨u1, u2⟩, ⟨v1, v2⟩, ⟨m1, m2⟩, ⟨n1, n2⟩, hx, hy, hu, hv, hm, hn, hf⟩ := good h
        exact spec_SpanDiv.p5 _ _ _ _ _ _ _ _ _ _ _ _ _ _ _ _ _ _ _ w q1 q2 hx hy hu hv hm hn hf (decide_eq_false c1)

/-! ### spec_SpanOf: function 74 -/
def spec_SpanOf.f (a0 : Int) (a1 : Int) : Option (Int × Int × Bool) := (spec_l2Rat.f a0 a1).bind fun t126 => (if t126 = true then ((spec_l1Down.f (wrap64 (a0 * 1000000000)) a1).bind fun t127 => ((spec_l1Up.f (wrap64 (a0 * 1000000000)) a1).bind fun t128 => ((spec_l2Fit.f t127 t128).bind fun bt129 => (some (bt129.1, bt129.2.1, bt129.2.2))))) else (some (0, 0, false)))
set_option maxHeartbeats 8000000 in
set_option maxRecDepth 100000 in
theorem spec_SpanOf.calls (a0 : Int) (a1 : Int) (r1 : Int) (r2 : Int) (r3 : Bool) (w : World) (h : spec_SpanOf.f a0 a1 = some (r1, r2, r3)) :
  Calls Try.prog 74 #[.int .i64 a0, .int .i64 a1] w fun e w' => e = .returned (.tuple #[.agg #[.int .i64 r1, .int .i64 r2], .bool r3]) ∧ Below w.heap.size w w' := by
 have hu31 := Try.underlying31
 have HB := Aside0.mk (Below.refl w.heap.size w)
 have H := h
 clear h
 unfold spec_SpanOf.f at H
 replace H := Option.bind_eq_some_iff.mp H
 obtain ⟨t126, A30, H⟩ := H
 try dsimp only at H
 have A3 := Aside0.mk A30
 clear A30
 by_cases c4 : t126 = true
 ·subst c4
  rw [if_pos rfl] at H
  replace H := Option.bind_eq_some_iff.mp H
  obtain ⟨t127, A50, H⟩ := H
  try dsimp only at H
  have A5 := Aside0.mk A50
  clear A50
  replace H := Option.bind_eq_some_iff.mp H
  obtain ⟨t128, A60, H⟩ := H
  try dsimp only at H
  have A6 := Aside0.mk A60
  clear A60
  replace H := Option.bind_eq_some_iff.mp H
  obtain ⟨⟨t129, t130, t131⟩, A70, H⟩ := H
  try dsimp only at H
  have A7 := Aside0.mk A70
  clear A70
  simp only [Option.some.injEq, Prod.mk.injEq] at H
  obtain ⟨rfl, rfl, rfl⟩ := H
  go_enter Try.func74, Try.ntmps74
  go_wp2_with (first | ((with_reducible refine gate_dst (N := 4) rfl ?_); refine bE 4 #[.int .i64 0, .int .i64 0] 31 ?_; intro gb125 hg w8 hbox hb; have BK125 := Aside0.mk (hbox); have GE125 := gw hg (hz0 HB); have GW125 := GE125; replace HB := hbb (hz0 HB) hb; clear hb hbox hg) | ((with_reducible refine gate_callee (f := 93) rfl ?_); refine gL 8 Try.func93 #[.int .i64 a0, .int .i64 a1] ?_; (with_reducible refine (spec_l2Rat.calls a0 a1 true _ A3.out).mono ?_); rintro e w' ⟨rfl, ⟨nd, rfl⟩⟩; refine ⟨_, rfl, ?_⟩; (try (rw [drewN_self w8]; generalize hq_ : World.drewN w8 _ = w8; have n0_ : Aside0 (w8.heap[gb125]? = some (.cells #[.int .i64 0, .int .i64 0] 31 (0, 0))) := ⟨by rw [← hq_]; exact (bk BK125)⟩; have n1_ : Aside0 (Below w.heap.size w w8) := ⟨by rw [← hq_]; exact (hzs HB)⟩; clear BK125 HB hq_; have BK125 := n0_; have HB := n1_; clear n0_ n1_))) | ((with_reducible refine gate_callee (f := 83) rfl ?_); refine gL 14 Try.func83 #[.int .i64 (wrap64 (a0 * 1000000000)), .int .i64 a1] ?_; (with_reducible refine (spec_l1Down.calls (wrap64 (a0 * 1000000000)) a1 t127 _ A5.out).mono ?_); rintro e w' ⟨rfl, ⟨nd, rfl⟩⟩; refine ⟨_, rfl, ?_⟩; (try (rw [drewN_self w8]; generalize hq_ : World.drewN w8 _ = w8; have n0_ : Aside0 (w8.heap[gb125]? = some (.cells #[.int .i64 0, .int .i64 0] 31 (0, 0))) := ⟨by rw [← hq_]; exact (bk BK125)⟩; have n1_ : Aside0 (Below w.heap.size w w8) := ⟨by rw [← hq_]; exact (hzs HB)⟩; clear BK125 HB hq_; have BK125 := n0_; have HB := n1_; clear n0_ n1_))) | ((with_reducible refine gate_callee (f := 84) rfl ?_); refine gL 18 Try.func84 #[.int .i64 (wrap64 (a0 * 1000000000)), .int .i64 a1] ?_; (with_reducible refine (spec_l1Up.calls (wrap64 (a0 * 1000000000)) a1 t128 _ A6.out).mono ?_); rintro e w' ⟨rfl, ⟨nd, rfl⟩⟩; refine ⟨_, rfl, ?_⟩; (try (rw [drewN_self w8]; generalize hq_ : World.drewN w8 _ = w8; have n0_ : Aside0 (w8.heap[gb125]? = some (.cells #[.int .i64 0, .int .i64 0] 31 (0, 0))) := ⟨by rw [← hq_]; exact (bk BK125)⟩; have n1_ : Aside0 (Below w.heap.size w w8) := ⟨by rw [← hq_]; exact (hzs HB)⟩; clear BK125 HB hq_; have BK125 := n0_; have HB := n1_; clear n0_ n1_))) | ((with_reducible refine gate_callee (f := 94) rfl ?_); refine gL 19 Try.func94 #[.int .i64 t127, .int .i64 t128] ?_; (with_reducible refine (spec_l2Fit.calls t127 t128 t129 t130 t131 _ A7.out).mono ?_); rintro e w9 ⟨rfl, hb⟩; refine ⟨_, rfl, ?_⟩; replace BK125 := bb (bk BK125) hb; replace HB := hbb (hzs HB) hb; clear hb; obtain ⟨hcz10_0, hcz10_1, hfz10_0, hfz10_1⟩ := cz2 BK125))
  refine bodyPost_ret (results_ct rfl _ _ gb125 31 #[.int .i64 t129, .int .i64 t130] (0, 0) _ rfl (bkp BK125) Try.underlying31 rfl (by kernel_rfl)) rfl ?_
  exact ⟨by first | rfl | (simp [errW_none, errW_some] <;> rfl) | (simp [*, errW_none, errW_some] <;> rfl), hzs HB⟩
 ·replace c4 := Bool.eq_false_iff.mpr c4
  subst c4
  rw [if_neg (show ¬ (false = true) by decide)] at H
  simp only [Option.some.injEq, Prod.mk.injEq] at H
  obtain ⟨rfl, rfl, rfl⟩ := H
  go_enter Try.func74, Try.ntmps74
  go_wp2_with (first | ((with_reducible refine gate_dst (N := 4) rfl ?_); refine bE 4 #[.int .i64 0, .int .i64 0] 31 ?_; intro gb125 hg w11 hbox hb; have BK125 := Aside0.mk (hbox); have GE125 := gw hg (hz0 HB); have GW125 := GE125; replace HB := hbb (hz0 HB) hb; clear hb hbox hg) | ((with_reducible refine gate_callee (f := 93) rfl ?_); refine gL 8 Try.func93 #[.int .i64 a0, .int .i64 a1] ?_; (with_reducible refine (spec_l2Rat.calls a0 a1 false _ A3.out).mono ?_); rintro e w' ⟨rfl, ⟨nd, rfl⟩⟩; refine ⟨_, rfl, ?_⟩; (try (rw [drewN_self w11]; generalize hq_ : World.drewN w11 _ = w11; have n0_ : Aside0 (w11.heap[gb125]? = some (.cells #[.int .i64 0, .int .i64 0] 31 (0, 0))) := ⟨by rw [← hq_]; exact (bk BK125)⟩; have n1_ : Aside0 (Below w.heap.size w w11) := ⟨by rw [← hq_]; exact (hzs HB)⟩; clear BK125 HB hq_; have BK125 := n0_; have HB := n1_; clear n0_ n1_)); obtain ⟨hcz12_0, hcz12_1, hfz12_0, hfz12_1⟩ := cz2 BK125))
  refine bodyPost_ret (results_ct rfl _ _ gb125 31 #[.int .i64 0, .int .i64 0] (0, 0) _ rfl (bkp BK125) Try.underlying31 rfl (by kernel_rfl)) rfl ?_
  exact ⟨by first | rfl | (simp [errW_none, errW_some] <;> rfl) | (simp [*, errW_none, errW_some] <;> rfl), hzs HB⟩


/-! ### spec_SpanRoot: function 76 -/
def spec_SpanRoot.j0 : Nat → Bool → Int → Int → Option (Int × Int × Bool)
 | 0, _, _, _ => none
 | k + 1, x11, x137000, x137001 => if x11 = true then (some (0, 0, false)) else ((spec_l1Root.f k (wrap64 (x137000 * 1000000000))).bind fun t139 => ((spec_l2RootUp.f k (wrap64 (x137001 * 1000000000))).bind fun t140 => ((spec_l2Fit.f t139 t140).bind fun bt141 => (some (bt141.1, bt141.2.1, bt141.2.2)))))
def spec_SpanRoot.f (k : Nat) (a0_0 : Int) (a0_1 : Int) : Option (Int × Int × Bool) := (spec_SpanOk.f a0_0 a0_1).bind fun t138 => (if t138 = true then (spec_SpanRoot.j0 k (decide (a0_0 < 0)) a0_0 a0_1) else (spec_SpanRoot.j0 k true a0_0 a0_1))
def spec_SpanRoot.T3 : Bool × List (List Nat × List Nat) := (true, [([], []), ([0], [0]), ([1], [1]), ([2], [2]), ([], []), ([4], [4]), ([5], [5]), ([6, 3], [6]), ([3, 7, 7], [3, 7]), ([8], [8]), ([8], [8]), ([9, 8, 0, 1, 2, 3, 4, 5, 6, 7, 8, 9, 10], [9]), ([10, 11, 0, 1, 2, 3, 4, 5, 6, 7, 8, 9, 10, 11], [10])])
def spec_SpanRoot.B3 : List Nat := [0, 1, 3, 7, 0, 16, 48, 127, 255, 511, 511, 2047, 4095]
theorem spec_SpanRoot.tab3 : rtab .any (opsOf Try.f76 3) = spec_SpanRoot.T3 := by kernel_rfl
theorem spec_SpanRoot.bits3 : waitsOk spec_SpanRoot.T3.2 spec_SpanRoot.B3 = true := by kernel_rfl
set_option maxHeartbeats 8000000 in
set_option maxRecDepth 100000 in
theorem spec_SpanRoot.calls (k : Nat) (a0_0 : Int) (a0_1 : Int) (r1 : Int) (r2 : Int) (r3 : Bool) (w : World) (h : spec_SpanRoot.f k a0_0 a0_1 = some (r1, r2, r3)) :
  Calls Try.prog 76 #[.agg #[.int .i64 a0_0, .int .i64 a0_1]] w fun e w' => e = .returned (.tuple #[.agg #[.int .i64 r1, .int .i64 r2], .bool r3]) ∧ Below w.heap.size w w' := by
 have hu31 := Try.underlying31
 have HB := Aside0.mk (Below.refl w.heap.size w)
 have H := h
 clear h
 unfold spec_SpanRoot.f at H
 have HC2 := Aside0.mk H
 clear H
 go_enter Try.func76, Try.ntmps76
 go_upto_region 1 with (first | ((with_reducible refine gate_dst (N := 1) rfl ?_); refine bE 1 #[.int .i64 a0_0, .int .i64 a0_1] 31 ?_; intro gb136 hg w3 hbox hb; have BK136 := Aside0.mk (hbox); have GE136 := gw hg (hz0 HB); replace HB := hbb (hz0 HB) hb; clear hb hbox hg) | ((with_reducible refine gate_dst (N := 2) rfl ?_); refine bE 2 #[.int .i64 0, .int .i64 0] 31 ?_; intro gb137 hg w4 hbox hb; have BK137 := Aside0.mk (hbox); have GE137 := gw hg (hzs HB); have NB136_137 := nl hg (bk BK136); have NB137_136 := ng hg (bk BK136); replace BK136 := bb (bk BK136) hb; replace HB := hbb (hzs HB) hb; clear hb hbox hg))
 (try simp only [Act.put, List.setIfInBounds_toArray, List.set_cons_zero, List.set_cons_succ])
 go_cut [11] (fun v11 wc => ∃ (kq : Nat) (x11_1 : Bool), v11 = .bool x11_1 ∧ Aside0 (spec_SpanRoot.j0 kq x11_1 a0_0 a0_1 = some (r1, r2, r3)) ∧ Aside0 (kq ≤ k) ∧ Aside0 (wc.heap[gb136]? = some (.cells #[.int .i64 a0_0, .int .i64 a0_1] 31 (0, 0))) ∧ Aside0 (wc.heap[gb137]? = some (.cells #[.int .i64 0, .int .i64 0] 31 (0, 0))) ∧ Aside0 (Below w.heap.size w wc))
 case first =>
  have H := HC2.out
  clear HC2
  replace H := Option.bind_eq_some_iff.mp H
  obtain ⟨t138, A50, H⟩ := H
  try dsimp only at H
  have A5 := Aside0.mk A50
  clear A50
  by_cases c6 : t138 = true
  ·subst c6
   rw [if_pos rfl] at H
   have H' := Aside0.mk H
   clear H
   have hnb7 := NB136_137.out
   have hnc7 := NB137_136.out
   obtain ⟨hcz8_0, hcz8_1, hfz8_0, hfz8_1⟩ := cz2 BK136
   go_wp2_with (first | ((with_reducible refine gate_callee (f := 56) rfl ?_); refine gL 5 Try.func56 #[.agg #[.int .i64 a0_0, .int .i64 a0_1]] ?_; (with_reducible refine (spec_SpanOk.calls a0_0 a0_1 true _ A5.out).mono ?_); rintro e w9 ⟨rfl, hb⟩; refine ⟨_, rfl, ?_⟩; replace BK136 := bb (bk BK136) hb; replace BK137 := bb (bk BK137) hb; replace HB := hbb (hzs HB) hb; clear hb; obtain ⟨hcz10_0, hcz10_1, hfz10_0, hfz10_1⟩ := cz2 BK136))
   go_meet
   case rel => exact ⟨_, (decide (a0_0 < 0)), (by first | rfl | (simp; done) | (simp [*]; done)), H', ⟨by first | omega | exact Nat.le_refl _⟩, ⟨bk BK136⟩, ⟨bk BK137⟩, ⟨hzs HB⟩⟩
  ·replace c6 := Bool.eq_false_iff.mpr c6
   subst c6
   rw [if_neg (show ¬ (false = true) by decide)] at H
   have H' := Aside0.mk H
   clear H
   have hnb11 := NB136_137.out
   have hnc11 := NB137_136.out
   obtain ⟨hcz12_0, hcz12_1, hfz12_0, hfz12_1⟩ := cz2 BK136
   go_wp2_with (first | ((with_reducible refine gate_callee (f := 56) rfl ?_); refine gL 5 Try.func56 #[.agg #[.int .i64 a0_0, .int .i64 a0_1]] ?_; (with_reducible refine (spec_SpanOk.calls a0_0 a0_1 false _ A5.out).mono ?_); rintro e w13 ⟨rfl, hb⟩; refine ⟨_, rfl, ?_⟩; replace BK136 := bb (bk BK136) hb; replace BK137 := bb (bk BK137) hb; replace HB := hbb (hzs HB) hb; clear hb))
   go_meet
   case rel => exact ⟨_, (true), (by first | rfl | (simp; done) | (simp [*]; done)), H', ⟨by first | omega | exact Nat.le_refl _⟩, ⟨bk BK136⟩, ⟨bk BK137⟩, ⟨hzs HB⟩⟩
 case rest =>
  clear HC2
  try clear c1
  try clear p2
  try clear c5
  try clear c6
  try clear c7
  try clear c11
  try clear hcz10_0 hcz10_1
  try clear hcz12_0 hcz12_1
  try clear hcz8_0 hcz8_1
  try clear hfz10_0 hfz10_1
  try clear hfz12_0 hfz12_1
  try clear hfz8_0 hfz8_1
  obtain ⟨kq, x11_1, rfl, HA, HJ1, BK136, BK137, HB⟩ := hcut
  cases kq with
  | zero => exact absurd HA.out (by simp [spec_SpanRoot.j0])
  | succ kj1 =>
   have H := HA.out
   clear HA
   simp only [spec_SpanRoot.j0] at H
   by_cases c14 : x11_1 = true
   ·subst c14
    rw [if_pos rfl] at H
    simp only [Option.some.injEq, Prod.mk.injEq] at H
    obtain ⟨rfl, rfl, rfl⟩ := H
    have hnb15 := NB137_136.out
    have hnc15 := NB136_137.out
    obtain ⟨hcz16_0, hcz16_1, hfz16_0, hfz16_1⟩ := cz2 BK137
    go_wp2
    refine bodyPost_ret (results_ct rfl _ _ gb137 31 #[.int .i64 0, .int .i64 0] (0, 0) _ rfl (bkp BK137) Try.underlying31 rfl (by kernel_rfl)) rfl ?_
    exact ⟨by first | rfl | (simp [errW_none, errW_some] <;> rfl) | (simp [*, errW_none, errW_some] <;> rfl), hzs HB⟩
   ·replace c14 := Bool.eq_false_iff.mpr c14
    subst c14
    rw [if_neg (show ¬ (false = true) by decide)] at H
    replace H := Option.bind_eq_some_iff.mp H
    obtain ⟨t139, A170, H⟩ := H
    try dsimp only at H
    have A17 := Aside0.mk A170
    clear A170
    replace H := Option.bind_eq_some_iff.mp H
    obtain ⟨t140, A180, H⟩ := H
    try dsimp only at H
    have A18 := Aside0.mk A180
    clear A180
    replace H := Option.bind_eq_some_iff.mp H
    obtain ⟨⟨t141, t142, t143⟩, A190, H⟩ := H
    try dsimp only at H
    have A19 := Aside0.mk A190
    clear A190
    simp only [Option.some.injEq, Prod.mk.injEq] at H
    obtain ⟨rfl, rfl, rfl⟩ := H
    try go_wp2
    replace BK136 := Aside0.mk (blk_drew BK136.out)
    replace BK137 := Aside0.mk (blk_drew BK137.out)
    replace HB := Aside0.mk (below_drew1 HB.out)
    refine start_ (n := 13) (S := fun w' => w'.cell? ⟨gb136, 0, none⟩ = some (.int .i64 a0_0) ∧ w'.cell? ⟨gb136, 1, none⟩ = some (.int .i64 a0_1)) (ds := []) #[false, false, false, false, false, false, false, false, false, false, false, false, false] (by kernel_rfl) rfl rfl ⟨cw0 BK136, cw1 BK136⟩ (fun hHeld => ?_); refine with_tabW spec_SpanRoot.tab3 spec_SpanRoot.bits3 (fun HT_ HW_ => ?_)
    generalize wc.drew = w20 at BK136 BK137 HB hHeld ⊢
    refine pU 0 13 #[true, false, false, false, false, false, false, false, false, false, false, false, false] HT_ ?_
    refine pU 4 17 #[true, false, false, false, true, false, false, false, false, false, false, false, false] HT_ ?_
    refine take_ (i := 1) (N := some 14) (v := ?_) (a' := ?_) #[true, true, false, false, true, false, false, false, false, false, false, false, false] rfl rfl (take_ofW HT_.out HW_.out (by kernel_rfl)) (fun _ _ _ h => h) (Or.inl ⟨by rfl, ?_⟩) hHeld ?_ ?_
    rotate_left
    ·rintro w' ⟨s0, s1⟩
     go_simp
     with_reducible rfl
    rotate_left
    ·simp only [Act.put, List.setIfInBounds_toArray, List.set_cons_zero, List.set_cons_succ, i64_w, i32_w]
     rfl
    refine pU 2 15 #[true, true, true, false, true, false, false, false, false, false, false, false, false] HT_ ?_
    refine take_ (i := 5) (N := some 18) (v := ?_) (a' := ?_) #[true, true, true, false, true, true, false, false, false, false, false, false, false] rfl rfl (take_ofW HT_.out HW_.out (by kernel_rfl)) (fun _ _ _ h => h) (Or.inl ⟨by rfl, ?_⟩) hHeld ?_ ?_
    rotate_left
    ·rintro w' ⟨s0, s1⟩
     go_simp
     with_reducible rfl
    rotate_left
    ·simp only [Act.put, List.setIfInBounds_toArray, List.set_cons_zero, List.set_cons_succ, i64_w, i32_w]
     rfl
    refine pU 6 19 #[true, true, true, false, true, true, true, false, false, false, false, false, false] HT_ ?_
    refine oN 3 16 #[true, true, true, true, true, true, true, false, false, false, false, false, false] HT_ (fun K hK => ?_)
    refine gS Try.func95 #[.int .i64 (wrap64 (a0_0 * 1000000000))] ?_
    with_reducible refine (spec_l1Root.calls kj1 (wrap64 (a0_0 * 1000000000)) t139 _ A17.out).mono ?_
    rintro e w' ⟨rfl, ⟨nd, rfl⟩⟩
    refine ⟨_, rfl, ?_⟩
    refine hK.out _ _ ⟨cw0 BK136, cw1 BK136⟩ (fun hHeld => ?_)
    clear hK K
    refine nP ?_
    refine oN 7 20 #[true, true, true, true, true, true, true, true, false, false, false, false, false] HT_ (fun K hK => ?_)
    refine gS Try.func96 #[.int .i64 (wrap64 (a0_1 * 1000000000))] ?_
    with_reducible refine (spec_l2RootUp.calls kj1 (wrap64 (a0_1 * 1000000000)) t140 _ A18.out).mono ?_
    rintro e w' ⟨rfl, ⟨nd, rfl⟩⟩
    refine ⟨_, rfl, ?_⟩
    refine hK.out _ _ ⟨cw0 BK136, cw1 BK136⟩ (fun hHeld => ?_)
    clear hK K
    refine nP ?_
    refine oN 8 21 #[true, true, true, true, true, true, true, true, true, false, false, false, false] HT_ (fun K hK => ?_)
    refine gS Try.func94 #[.int .i64 t139, .int .i64 t140] ?_
    with_reducible refine (spec_l2Fit.calls t139 t140 t141 t142 t143 _ A19.out).mono ?_
    rintro e w21 ⟨rfl, hb⟩
    refine ⟨_, rfl, ?_⟩
    replace BK136 := bb (bk BK136) hb
    replace BK137 := bb (bk BK137) hb
    replace HB := hbb (hzs HB) hb
    clear hb
    refine hK.out _ _ ⟨cw0 BK136, cw1 BK136⟩ (fun hHeld => ?_)
    clear hK K
    refine nP ?_
    refine pU 9 22 #[true, true, true, true, true, true, true, true, true, true, false, false, false] HT_ ?_
    refine pU 10 23 #[true, true, true, true, true, true, true, true, true, true, true, false, false] HT_ ?_
    refine one_ (i := 11) (N := none) #[true, true, true, true, true, true, true, true, true, true, true, true, false] rfl rfl (one_of HT_.out (by kernel_rfl)) (by decide) (fun K hK => ?_)
    have hs22 : w21.cell? ⟨gb137, 0, none⟩ = some (.int .i64 0) := (blk_cell BK137.out 0).trans rfl
    have hfs22 := blk_frozen BK137.out 0
    have hns22_0 := NB136_137.out
    have hms22_0 := NB137_136.out
    have hs23 : w21.cell? ⟨gb137, 1, none⟩ = some (.int .i64 0) := (blk_cell BK137.out 1).trans rfl
    have hfs23 := blk_frozen BK137.out 1
    have hns23_0 := NB136_137.out
    have hms23_0 := NB137_136.out
    refine skip_ (w1 := ?_) (by rfl) rfl ?_ ?_
    rotate_left
    ·go_simp
     rfl
    refine hK.out _ _ ⟨((cell_far (p := ⟨gb137, _, none⟩) NB136_137.out _).trans (((cell_far (p := ⟨gb137, _, none⟩) NB136_137.out _).trans (hHeld.1)))), ((cell_far (p := ⟨gb137, _, none⟩) NB136_137.out _).trans (((cell_far (p := ⟨gb137, _, none⟩) NB136_137.out _).trans (hHeld.2))))⟩ (fun hHeld => ?_)
    clear hK K
    refine pU 12 3 #[true, true, true, true, true, true, true, true, true, true, true, true, true] HT_ ?_
    refine done_ (done_of HT_.out (by kernel_rfl)) ?_
    try go_wp2
    refine bodyPost_ret (results_ct rfl _ _ gb137 31 #[.int .i64 t141, .int .i64 t142] (0, 0) _ rfl (bkp BK137) Try.underlying31 rfl (by kernel_rfl)) rfl ?_
    exact ⟨by first | rfl | (simp [errW_none, errW_some] <;> rfl) | (simp [*, errW_none, errW_some] <;> rfl), hzs HB⟩


end Go.Proofs.Ytlodpfddimeffaa.M

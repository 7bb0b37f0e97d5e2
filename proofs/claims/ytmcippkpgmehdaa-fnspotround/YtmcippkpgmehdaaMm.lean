import Derived.Test.YtmcippkpgmehdaaM0
import Derived.Test.YtmcippkpgmehdaaMd
import Derived.Test.YtmcippkpgmehdaaMk
namespace Go.Proofs.Ytmcippkpgmehdaa.M
open Go.RowKit Go.Proofs.YtmcippkpgmehdaaW.PrintWords Go.Proofs.YtmcippkpgmehdaaW.PrintLast Go.Proofs.YtmcippkpgmehdaaW.PrintMore
attribute [local go_sem] max2_int min2_int max_two min_two max_three min_three max_four min_four
attribute [local go_sem high] eqA42 eqA29 eqA24
attribute [local go_sem] fld42_0 fld42_1 fld29_0 fld29_1 fld24_0 fld24_1 fld38_0 fld38_1 fld88_0 fld88_1 fld88_2 fld88_3 fld88_4
set_option linter.unusedVariables false
set_option linter.unusedSimpArgs false

/-! ### impl_SpotRound: function 38 -/
def impl_SpotRound.f (k : Nat) (a0_0 : Int) (a0_1 : Int) (a1_0 : Int) (a1_1 : Int) (a2 : Int) (a3 : Int) : Option (Int × Bool) := (impl_SpotDist.f k a0_0 a0_1 a1_0 a1_1).bind fun bt457 => (if bt457.2.2 = true then ((impl_FanRound.f bt457.1 bt457.2.1 a2 a3).bind fun bt461 => (some (bt461.1, bt461.2))) else (some (0, false)))
set_option maxHeartbeats 8000000 in
set_option maxRecDepth 100000 in
theorem impl_SpotRound.calls (k : Nat) (a0_0 : Int) (a0_1 : Int) (a1_0 : Int) (a1_1 : Int) (a2 : Int) (a3 : Int) (r1 : Int) (r2 : Bool) (w : World) (h : impl_SpotRound.f k a0_0 a0_1 a1_0 a1_1 a2 a3 = some (r1, r2)) :
  Calls Try.prog 38 #[.agg #[.int .i64 a0_0, .int .i64 a0_1], .agg #[.int .i64 a1_0, .int .i64 a1_1], .int .i64 a2, .int .i64 a3] w fun e w' => e = .returned (.tuple #[.int .i64 r1, .bool r2]) ∧ Below w.heap.size w w' := by
 have hu24 := Try.underlying24
 have hu29 := Try.underlying29
 have HB := Aside0.mk (Below.refl w.heap.size w)
 have H : ((impl_SpotDist.f k a0_0 a0_1 a1_0 a1_1).bind fun bt457 => (if bt457.2.2 = true then ((impl_FanRound.f bt457.1 bt457.2.1 a2 a3).bind fun bt461 => (some (bt461.1, bt461.2))) else (some (0, false)))) = some (r1, r2) := h
 clear h
 replace H := Option.bind_eq_some_iff.mp H
 obtain ⟨⟨t457, t458, t459⟩, A50, H⟩ := H
 try dsimp only at H
 have A5 := Aside0.mk A50
 clear A50
 by_cases c6 : t459 = true
 ·subst c6
  have H1 : ((impl_FanRound.f t457 t458 a2 a3).bind fun bt461 => (some (bt461.1, bt461.2))) = some (r1, r2) := by rw [if_pos rfl] at H; exact H
  clear H
  have H := H1
  clear H1
  replace H := Option.bind_eq_some_iff.mp H
  obtain ⟨⟨t461, t462⟩, A70, H⟩ := H
  try dsimp only at H
  have A7 := Aside0.mk A70
  clear A70
  simp only [Option.some.injEq, Prod.mk.injEq] at H
  obtain ⟨rfl, rfl⟩ := H
  go_enter Try.func38, Try.ntmps38
  go_wp2_with (first | ((with_reducible refine gate_dst (N := 4) rfl ?_); refine bE 4 #[.int .i64 a0_0, .int .i64 a0_1] 24 ?_; intro gb455 hg w8 hbox hb; have BK455 := Aside0.mk (hbox); have GE455 := gw hg (hz0 HB); have GW455 := GE455; replace HB := hbb (hz0 HB) hb; clear hb hbox hg) | ((with_reducible refine gate_dst (N := 5) rfl ?_); refine bE 5 #[.int .i64 a1_0, .int .i64 a1_1] 24 ?_; intro gb456 hg w9 hbox hb; have BK456 := Aside0.mk (hbox); have GE456 := gw hg (hzs HB); have GW456 := GE456; have NB455_456 := nl hg (bk BK455); have NB456_455 := ng hg (bk BK455); replace BK455 := bb (bk BK455) hb; replace HB := hbb (hzs HB) hb; clear hb hbox hg; have hnb10 := NB455_456.out; have hnc10 := NB456_455.out; obtain ⟨hcz11_0, hcz11_1, hfz11_0, hfz11_1⟩ := cz2 BK455; obtain ⟨hcz12_0, hcz12_1, hfz12_0, hfz12_1⟩ := cz2 BK456) | ((with_reducible refine gate_callee (f := 20) rfl ?_); refine gL 15 Try.func20 #[.agg #[.int .i64 a0_0, .int .i64 a0_1], .agg #[.int .i64 a1_0, .int .i64 a1_1]] ?_; (with_reducible refine (impl_SpotDist.calls k a0_0 a0_1 a1_0 a1_1 t457 t458 true _ A5.out).mono ?_); rintro e w13 ⟨rfl, hb⟩; refine ⟨_, rfl, ?_⟩; replace BK455 := bb (bk BK455) hb; replace BK456 := bb (bk BK456) hb; replace HB := hbb (hzs HB) hb; clear hb) | ((with_reducible refine gate_dst (N := 10) rfl ?_); refine bE 10 #[.int .i64 0, .int .i64 0] 29 ?_; intro gb460 hg w14 hbox hb; have BK460 := Aside0.mk (hbox); have GE460 := gw hg (hzs HB); have GW460 := GE460; have NB455_460 := nl hg (bk BK455); have NB460_455 := ng hg (bk BK455); have NB456_460 := nl hg (bk BK456); have NB460_456 := ng hg (bk BK456); replace BK455 := bb (bk BK455) hb; replace BK456 := bb (bk BK456) hb; replace HB := hbb (hzs HB) hb; clear hb hbox hg; have hnb15 := NB460_455.out; have hnc15 := NB455_460.out; have hnb16 := NB460_456.out; have hnc16 := NB456_460.out; obtain ⟨hcz17_0, hcz17_1, hfz17_0, hfz17_1⟩ := cz2 BK460) | ((with_reducible refine gate_callee (f := 65) rfl ?_); refine gL 23 Try.func65 #[.agg #[.int .i64 t457, .int .i64 t458], .int .i64 a2, .int .i64 a3] ?_; (with_reducible refine (impl_FanRound.calls t457 t458 a2 a3 t461 t462 _ A7.out).mono ?_); rintro e w18 ⟨rfl, hb⟩; refine ⟨_, rfl, ?_⟩; replace BK455 := bb (bk1 BK455 NB455_460) hb; replace BK456 := bb (bk1 BK456 NB456_460) hb; replace BK460 := bb (o := .cells #[.int .i64 t457, .int .i64 t458] 29 (0, 0)) (bkp BK460) hb; replace HB := hbb (hzs HB) hb; clear hb))
  go_ret2
  exact ⟨by first | rfl | (simp [errW_none, errW_some] <;> rfl) | (simp [*, errW_none, errW_some] <;> rfl), hzs HB⟩
 ·replace c6 := Bool.eq_false_iff.mpr c6
  subst c6
  have H1 : (some (0, false)) = some (r1, r2) := by rw [if_neg (show ¬ (false = true) by decide)] at H; exact H
  clear H
  have H := H1
  clear H1
  simp only [Option.some.injEq, Prod.mk.injEq] at H
  obtain ⟨rfl, rfl⟩ := H
  go_enter Try.func38, Try.ntmps38
  go_wp2_with (first | ((with_reducible refine gate_dst (N := 4) rfl ?_); refine bE 4 #[.int .i64 a0_0, .int .i64 a0_1] 24 ?_; intro gb455 hg w19 hbox hb; have BK455 := Aside0.mk (hbox); have GE455 := gw hg (hz0 HB); have GW455 := GE455; replace HB := hbb (hz0 HB) hb; clear hb hbox hg) | ((with_reducible refine gate_dst (N := 5) rfl ?_); refine bE 5 #[.int .i64 a1_0, .int .i64 a1_1] 24 ?_; intro gb456 hg w20 hbox hb; have BK456 := Aside0.mk (hbox); have GE456 := gw hg (hzs HB); have GW456 := GE456; have NB455_456 := nl hg (bk BK455); have NB456_455 := ng hg (bk BK455); replace BK455 := bb (bk BK455) hb; replace HB := hbb (hzs HB) hb; clear hb hbox hg; have hnb21 := NB455_456.out; have hnc21 := NB456_455.out; obtain ⟨hcz22_0, hcz22_1, hfz22_0, hfz22_1⟩ := cz2 BK455; obtain ⟨hcz23_0, hcz23_1, hfz23_0, hfz23_1⟩ := cz2 BK456) | ((with_reducible refine gate_callee (f := 20) rfl ?_); refine gL 15 Try.func20 #[.agg #[.int .i64 a0_0, .int .i64 a0_1], .agg #[.int .i64 a1_0, .int .i64 a1_1]] ?_; (with_reducible refine (impl_SpotDist.calls k a0_0 a0_1 a1_0 a1_1 t457 t458 false _ A5.out).mono ?_); rintro e w24 ⟨rfl, hb⟩; refine ⟨_, rfl, ?_⟩; replace BK455 := bb (bk BK455) hb; replace BK456 := bb (bk BK456) hb; replace HB := hbb (hzs HB) hb; clear hb) | ((with_reducible refine gate_dst (N := 10) rfl ?_); refine bE 10 #[.int .i64 0, .int .i64 0] 29 ?_; intro gb460 hg w25 hbox hb; have BK460 := Aside0.mk (hbox); have GE460 := gw hg (hzs HB); have GW460 := GE460; have NB455_460 := nl hg (bk BK455); have NB460_455 := ng hg (bk BK455); have NB456_460 := nl hg (bk BK456); have NB460_456 := ng hg (bk BK456); replace BK455 := bb (bk BK455) hb; replace BK456 := bb (bk BK456) hb; replace HB := hbb (hzs HB) hb; clear hb hbox hg; have hnb26 := NB460_455.out; have hnc26 := NB455_460.out; have hnb27 := NB460_456.out; have hnc27 := NB456_460.out; obtain ⟨hcz28_0, hcz28_1, hfz28_0, hfz28_1⟩ := cz2 BK460))
  go_ret2
  exact ⟨by first | rfl | (simp [errW_none, errW_some] <;> rfl) | (simp [*, errW_none, errW_some] <;> rfl), hzs HB⟩


end Go.Proofs.Ytmcippkpgmehdaa.M

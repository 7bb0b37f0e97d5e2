import Derived.Test.YtlodpfddimeffaaM0
import Derived.Test.YtlodpfddimeffaaDa
import Derived.Test.YtlodpfddimeffaaDb
import Derived.Test.YtlodpfddimeffaaNg
namespace Go.Proofs.Ytlodpfddimeffaa.M
open Go.RowKit Go.Proofs.YtlodpfddimeffaaW.PrintWords Go.Proofs.YtlodpfddimeffaaW.PrintLast Go.Proofs.YtlodpfddimeffaaW.PrintMore
attribute [local go_sem] max2_int min2_int max_two min_two max_three min_three max_four min_four
attribute [local go_sem high] eqA31
attribute [local go_sem] fld31_0 fld31_1 fld25_0 fld25_1 fld25_2 fld25_3
set_option linter.unusedVariables false
set_option linter.unusedSimpArgs false

/-! ### spec_l71Bent: function 37 -/
theorem k25_mkF (W : World) (ok : Nat → Prop) (x : S25) {A3 : Option Addr} {c3 : Nat} (l3 : x.f3.length ≤ c3) (g3 : Kd.F k25 W ok A3 x.f3.length x.f3) : Kd.FK k25 W ok x [.int .i64 x.f0, .int .i64 x.f1, .int .i64 x.f2, .slice A3 x.f3.length c3] := fun W2 hW => k25_mk W2 x l3 (g3 W2 hW)
theorem IsS72.own_neN {w0 W : World} {g : Nat} {f0 : List Int} {f1 : Int} {α : Type} {d : Kd α} {e : Nat} {base : Nat} {ok : Nat → Prop} {v : Value} {xs : List α} (h : IsS72 w0 W g f0 f1) (ho : Kd.N d e W base ok v xs) (ht : e ≠ 72) : some g ≠ v.ownBlock := by
  obtain ⟨A0, c0, hb, hg, hr0⟩ := h
  obtain ⟨_, rows, _, hR, _⟩ := ho
  exact Kd.R_ne hR hb ht
mutual
def spec_l71Bent.j2 : Nat → List Int → Int → Int → Int → Int → List (S25) → Option (Int × Int × Int × (List (S25)) × Int)
 | 0, _, _, _, _, _, _ => none
 | k + 1, x1000, x1001, x410000, x410001, x410002, x410003 => (spec_l6Rd_pick.f k x1000 x1001 24).bind fun bt425 => (if bt425.1 = 0 then ((spec_l6Rd_pick.f k x1000 bt425.2 11).bind fun bt427 => (some (wrap64 (bt427.1 - 1), x410001, x410002, x410003, bt427.2))) else (if bt425.1 = 1 then ((some (([1001, (-1001), 1] : List Int) : List Int)).bind fun y429 => ((spec_l6Rd_pick.f k x1000 bt425.2 3).bind fun bt432 => (if 0 ≤ bt432.1 then (if bt432.1 < (y429.length : Int) then (some (x410000, rd y429 bt432.1, x410002, x410003, bt432.2)) else (none)) else (none)))) else (if bt425.1 = 2 then (some (5, 0, 0, (([(⟨x410000, x410001, x410002, x410003⟩ : S25), (⟨x410000, x410001, x410002, x410003⟩ : S25)] : List (S25))), bt425.2)) else (if bt425.1 = 3 then (if x410003.length < 2932031007402 then (some (x410000, x410001, x410002, (x410003 ++ [(⟨1, 0, 1, ([] : List (S25))⟩ : S25)]), bt425.2)) else (none)) else (some (x410000, x410001, x410002, x410003, bt425.2))))))
def spec_l71Bent.l0 : Nat → Bool → Int → List Int → Int → Int → Int → Int → List (S25) → Option (Int × Int × Int × (List (S25)) × Int)
 | 0, _, _, _, _, _, _, _, _ => none
 | k + 1, x1, x6, x1000, x1001, x410000, x410001, x410002, x410003 => if x6 < 4 then ((spec_l6Rd_pick.f k x1000 x1001 6).bind fun bt410 => (spec_l71Bent.j1 k x1 x6 (decide (bt410.1 > 0)) x1000 bt410.2 x410000 x410001 x410002 x410003)) else (spec_l71Bent.j1 k x1 x6 false x1000 x1001 x410000 x410001 x410002 x410003)
def spec_l71Bent.j1 : Nat → Bool → Int → Bool → List Int → Int → Int → Int → Int → List (S25) → Option (Int × Int × Int × (List (S25)) × Int)
 | 0, _, _, _, _, _, _, _, _, _ => none
 | k + 1, x1, x6, x21, x1000, x1001, x410000, x410001, x410002, x410003 => if x21 = true then ((spec_ExprSpan.f k x410000 x410001 x410002 x410003).bind fun bt412 => (if bt412.2.2 = true then (spec_l71Bent.j2 k x1000 x1001 x410000 x410001 x410002 x410003) else ((spec_l6Rd_pick.f k x1000 x1001 4).bind fun bt416 => ((spec_l71Expr.f k x1000 bt416.2 (wrap64 (1 + bt416.1)) x1).bind fun bt418 => (spec_l71Bent.l0 k x1 (wrap64 (x6 + 1)) x1000 bt418.2.2.2.2 bt418.1 bt418.2.1 bt418.2.2.1 bt418.2.2.2.1))))) else (spec_l71Bent.j2 k x1000 x1001 x410000 x410001 x410002 x410003)
end
def spec_l71Bent.f (k : Nat) (s0_0 : List Int) (s0_1 : Int) (a1 : Bool) : Option (Int × Int × Int × (List (S25)) × Int) := (spec_l6Rd_pick.f k s0_0 s0_1 4).bind fun bt400 => ((spec_l71Expr.f k s0_0 bt400.2 (wrap64 (1 + bt400.1)) a1).bind fun bt402 => (spec_l71Bent.l0 k a1 0 s0_0 bt402.2.2.2.2 bt402.1 bt402.2.1 bt402.2.2.1 bt402.2.2.2.1))
set_option maxHeartbeats 8000000 in
set_option maxRecDepth 100000 in
theorem spec_l71Bent.calls (k : Nat) (g : Nat) (s0_0 : List Int) (s0_1 : Int) (a1 : Bool) (r1 : Int) (r2 : Int) (r3 : Int) (r4 : List (S25)) (r5 : Int) (w0 w : World) (hI : IsS72 w0 w g s0_0 s0_1) (hB : Below w0.heap.size w0 w) (h : spec_l71Bent.f k s0_0 s0_1 a1 = some (r1, r2, r3, r4, r5)) :
  Calls Try.prog 37 #[.pointer (some ⟨g, 0, none⟩), .bool a1] w fun e w' => ∃ v3_ : Value, e = .returned (.agg #[.int .i64 r1, .int .i64 r2, .int .i64 r3, v3_]) ∧ Kd.N k25 25 w' w.heap.size (fun k_ => (w.heap.size ≤ k_)) v3_ r4 ∧ IsS72 w0 w' g s0_0 r5 ∧ Below w0.heap.size w0 w' ∧ KeepBut w w' g none := by
 have hu25 := Try.underlying25
 have hu31 := Try.underlying31
 have HI0 := Aside0.mk hI
 have HK := Aside0.mk (KeepBut.refl w g none)
 have HL := Aside0.mk hB.size
 clear hI
 have HW0 := Aside0.mk hB.size
 have HB := Aside0.mk hB
 clear hB
 have H := h
 clear h
 unfold spec_l71Bent.f at H
 replace H := Option.bind_eq_some_iff.mp H
 obtain ⟨⟨t400, t401⟩, A30, H⟩ := H
 try dsimp only at H
 have A3 := Aside0.mk A30
 clear A30
 replace H := Option.bind_eq_some_iff.mp H
 obtain ⟨⟨t402, t403, t404, t405, t408⟩, A40, H⟩ := H
 try dsimp only at H
 have A4 := Aside0.mk A40
 clear A40
 have HC5 := Aside0.mk H
 clear H
 go_enter Try.func37, Try.ntmps37
 go_upto_block 0 with (first | ((with_reducible refine gate_dst (N := 4) rfl ?_); refine bE 4 #[.int .i64 0, .int .i64 0, .int .i64 0, .slice none 0 0] 25 ?_; intro gb399 hg w6 hbox hb; have BK399 := Aside0.mk (hbox); have GW399 := ks hg (hzk HK); have GE399 := kw HW0 hg (hzk HK); have NB0_399 := nL hg (IsS72.lt (show IsS72 w0 _ g s0_0 s0_1 from IsS72.go_ HI0)); have NB399_0 := nG hg (IsS72.lt (show IsS72 w0 _ g s0_0 s0_1 from IsS72.go_ HI0)); replace HI0 := Aside0.mk (IsS72.below (IsS72.go_ HI0) hb); replace HK := Aside0.mk (KeepBut.trans (hzk HK) (KeepBut.of_below hb g none) (.inl rfl)); replace HB := hbb (hzI HB) hb; clear hb hbox hg) | ((with_reducible refine gate_callee (f := 38) rfl ?_); refine gL 11 Try.func38 #[.pointer (some ⟨g, 0, none⟩), .int .i64 4] ?_; (with_reducible refine (spec_l6Rd_pick.calls k g s0_0 s0_1 4 t400 t401 w0 _ ?side1 ?side2 A3.out).mono ?_); (case side1 => exact IsS72.go_ HI0); (case side2 => exact hzI HB); rintro e w7 ⟨rfl, hi, hb, hk⟩; refine ⟨_, rfl, ?_⟩; replace BK399 := kb hk (bk BK399) NB399_0; replace HK := Aside0.mk (KeepBut.trans (hzk HK) hk (.inl rfl)); replace HB := Aside0.mk (hb); replace HI0 := Aside0.mk (hi); clear hi hb hk) | ((with_reducible refine gate_callee (f := 55) rfl ?_); refine gL 14 Try.func55 #[.pointer (some ⟨g, 0, none⟩), .int .i64 (wrap64 (1 + t400)), .bool a1] ?_; (with_reducible refine (spec_l71Expr.calls k g s0_0 t401 (wrap64 (1 + t400)) a1 t402 t403 t404 t405 t408 w0 _ ?side1 ?side2 A4.out).mono ?_); (case side1 => exact IsS72.go_ HI0); (case side2 => exact hzI HB); rintro e w8 ⟨v406, rfl, ho0, hi, hb, hk⟩; refine ⟨_, rfl, ?_⟩; have HO407 := Aside0.mk (Kd.N_lower (Kd.N_mono (ok' := fun k_ => (w.heap.size ≤ k_) ∧ k_ ≠ gb399 ∧ k_ ≠ g) (Kd.R_N (Kd.R_bound ho0)) (fun k_ hk_ => ⟨(Nat.le_trans (keep_size (w := w) (g := g) (row := none) (hzk HK)) hk_.2.1), (Kd.freshB (g := gb399) (o := .cells #[.int .i64 0, .int .i64 0, .int .i64 0, .slice none 0 0] 25 (0, 0)) (bk BK399) k_ hk_.2.1), (IsS72.fresh (IsS72.go_ HI0) k_ hk_.2.1)⟩)) (keep_size (w := w) (g := g) (row := none) (hzk HK))); replace BK399 := kb hk (bk BK399) NB399_0; replace HK := Aside0.mk (KeepBut.trans (hzk HK) hk (.inl rfl)); replace HB := Aside0.mk (hb); replace HI0 := Aside0.mk (hi); (try clear hb); (try clear hb2); (try clear hk); (try clear hi); (try clear ho0)) | ((with_reducible refine gate_dst (N := 5) rfl ?_); refine bE 5 #[.int .i64 0, .int .i64 0, .int .i64 0, .slice none 0 0] 25 ?_; intro gb409 hg w9 hbox hb; have BK409 := Aside0.mk (hbox); have GW409 := ks hg (hzk HK); have GE409 := kw HW0 hg (hzk HK); have NB399_409 := nl hg (bk BK399); have NB409_399 := ng hg (bk BK399); have NB0_409 := nL hg (IsS72.lt (show IsS72 w0 _ g s0_0 t408 from IsS72.go_ HI0)); have NB409_0 := nG hg (IsS72.lt (show IsS72 w0 _ g s0_0 t408 from IsS72.go_ HI0)); replace HO407 := Aside0.mk (Kd.N_below (Kd.N_elderB (by (with_reducible repeat (first | apply Kd.N_alloc | apply Kd.N_drewN | apply Kd.N_drew)); exact HO407.out) gb409 (Nat.le_of_eq hg.symm)) hb); replace HI0 := Aside0.mk (IsS72.below (IsS72.go_ HI0) hb); replace BK399 := bb (bk BK399) hb; replace HK := Aside0.mk (KeepBut.trans (hzk HK) (KeepBut.of_below hb g none) (.inl rfl)); replace HB := hbb (hzI HB) hb; clear hb hbox hg; have hnb10 := NB409_399.out; have hnc10 := NB399_409.out; have hnb11 := NB409_0.out; have hnc11 := NB0_409.out; obtain ⟨hcz12_0, hcz12_1, hcz12_2, hcz12_3, hfz12_0, hfz12_1, hfz12_2, hfz12_3⟩ := cz4 BK409; obtain ⟨Ao13, co13, eo13⟩ := Kd.N_slice HO407.out; subst eo13))
 (try simp only [Act.put, List.setIfInBounds_toArray, List.set_cons_zero, List.set_cons_succ])
 go_cut [] (fun wc => ∃ (kq : Nat) (x1001_4 : Int) (x410000_4 : Int) (x410001_4 : Int) (x410002_4 : Int) (x410003_4 : List (S25)) (u410003 : Value), Aside0 (spec_l71Bent.j2 kq s0_0 x1001_4 x410000_4 x410001_4 x410002_4 x410003_4 = some (r1, r2, r3, r4, r5)) ∧ Aside0 (kq ≤ k) ∧ Aside0 (Kd.N k25 25 wc w.heap.size (fun k_ => (w.heap.size ≤ k_) ∧ k_ ≠ gb399 ∧ k_ ≠ gb409 ∧ k_ ≠ g) u410003 x410003_4) ∧ Aside0 (wc.heap[gb399]? = some (.cells #[.int .i64 0, .int .i64 0, .int .i64 0, (.slice none 0 0)] 25 (0, 0))) ∧ Aside0 (wc.heap[gb409]? = some (.cells #[.int .i64 x410000_4, .int .i64 x410001_4, .int .i64 x410002_4, u410003] 25 (0, 0))) ∧ Aside0 (IsS72 w0 wc g s0_0 x1001_4) ∧ Aside0 (KeepBut w wc g none) ∧ Aside0 (Below w0.heap.size w0 wc))
 case first =>
  have H := HC5.out
  clear HC5
  have H' := Aside0.mk H
  clear H
  go_wp2
  go_loopg [6] k (fun kq v6 w' => ∃ (x6_1 : Int) (x1001_1 : Int) (x410000_1 : Int) (x410001_1 : Int) (x410002_1 : Int) (x410003_1 : List (S25)) (u410003 : Value), v6 = .int .i64 x6_1 ∧ Aside0 (spec_l71Bent.l0 kq a1 x6_1 s0_0 x1001_1 x410000_1 x410001_1 x410002_1 x410003_1 = some (r1, r2, r3, r4, r5)) ∧ Aside0 (kq ≤ k) ∧ Aside0 (Kd.N k25 25 w' w.heap.size (fun k_ => (w.heap.size ≤ k_) ∧ k_ ≠ gb399 ∧ k_ ≠ gb409 ∧ k_ ≠ g) u410003 x410003_1) ∧ Aside0 (w'.heap[gb399]? = some (.cells #[.int .i64 0, .int .i64 0, .int .i64 0, (.slice none 0 0)] 25 (0, 0))) ∧ Aside0 (w'.heap[gb409]? = some (.cells #[.int .i64 x410000_1, .int .i64 x410001_1, .int .i64 x410002_1, u410003] 25 (0, 0))) ∧ Aside0 (IsS72 w0 w' g s0_0 x1001_1) ∧ Aside0 (KeepBut w w' g none) ∧ Aside0 (Below w0.heap.size w0 w'))
  case atStart => exact ⟨(0), (t408), (t402), (t403), (t404), (t405), (.slice Ao13 t405.length co13), (by first | rfl | (simp; done) | (simp [*]; done)), H', ⟨Nat.le_refl _⟩, ⟨by (with_reducible repeat (first | apply Kd.N_alloc | apply Kd.N_drewN | apply Kd.N_drew)); exact Kd.N_mono (Kd.N_far (p := ⟨gb409, 3, none⟩) (Kd.N_far (p := ⟨gb409, 2, none⟩) (Kd.N_far (p := ⟨gb409, 1, none⟩) (Kd.N_far (p := ⟨gb409, 0, none⟩) (Kd.N_mono HO407.out (fun k_ hk => (⟨hk, hk.2⟩ : _ ∧ k_ ≠ gb409))) (fun _ hk => hk.2) (.int .i64 t402)) (fun _ hk => hk.2) (.int .i64 t403)) (fun _ hk => hk.2) (.int .i64 t404)) (fun _ hk => hk.2) (.slice Ao13 t405.length co13)) (fun _ hk => ⟨hk.1.1.1, ⟨hk.1.1.2.1, ⟨hk.1.2, hk.1.1.2.2⟩⟩⟩)⟩, ⟨bk1 BK399 NB399_409⟩, ⟨by (with_reducible repeat (first | refine blk_drewN ?_ _ | refine blk_drew ?_ | refine blk_alloc ?_ _)); refine blk_put (cs := #[.int .i64 t402, .int .i64 t403, .int .i64 t404, .slice none 0 0]) ?_ 3 _ rfl; (with_reducible repeat (first | refine blk_drewN ?_ _ | refine blk_drew ?_ | refine blk_alloc ?_ _)); refine blk_put (cs := #[.int .i64 t402, .int .i64 t403, .int .i64 0, .slice none 0 0]) ?_ 2 _ rfl; (with_reducible repeat (first | refine blk_drewN ?_ _ | refine blk_drew ?_ | refine blk_alloc ?_ _)); refine blk_put (cs := #[.int .i64 t402, .int .i64 0, .int .i64 0, .slice none 0 0]) ?_ 1 _ rfl; (with_reducible repeat (first | refine blk_drewN ?_ _ | refine blk_drew ?_ | refine blk_alloc ?_ _)); refine blk_put (cs := #[.int .i64 0, .int .i64 0, .int .i64 0, .slice none 0 0]) ?_ 0 _ rfl; (with_reducible repeat (first | refine blk_drewN ?_ _ | refine blk_drew ?_ | refine blk_alloc ?_ _)); exact BK409.out⟩, ⟨IsS72.go_ HI0⟩, ⟨hzk HK⟩, ⟨hzI HB⟩⟩
  case round =>
   clear H'
   try clear c1
   try clear p2
   try clear c3
   try clear c5
   try clear p6
   try clear c10
   try clear c11
   try clear hcz12_0 hcz12_1 hcz12_2 hcz12_3
   try clear hfz12_0 hfz12_1 hfz12_2 hfz12_3
   obtain ⟨x6_1, x1001_1, x410000_1, x410001_1, x410002_1, x410003_1, u410003, rfl, HA, HK1, HO_410003, BK399, BK409, HI0, HK, HB⟩ := hrel
   cases gk with
   | zero => exact absurd HA.out (by simp [spec_l71Bent.l0])
   | succ k1 =>
    have H := HA.out
    clear HA
    simp only [spec_l71Bent.l0] at H
    have HC14 := Aside0.mk H
    clear H
    go_upto_region 3 with (fail)
    go_cut [21] (fun v21 wc => ∃ (kq : Nat) (x21_13 : Bool) (x1001_13 : Int), v21 = .bool x21_13 ∧ Aside0 (spec_l71Bent.j1 kq a1 x6_1 x21_13 s0_0 x1001_13 x410000_1 x410001_1 x410002_1 x410003_1 = some (r1, r2, r3, r4, r5)) ∧ Aside0 (kq ≤ k1) ∧ Aside0 (Kd.N k25 25 wc w.heap.size (fun k_ => (w.heap.size ≤ k_) ∧ k_ ≠ gb399 ∧ k_ ≠ gb409 ∧ k_ ≠ g) u410003 x410003_1) ∧ Aside0 (wc.heap[gb399]? = some (.cells #[.int .i64 0, .int .i64 0, .int .i64 0, (.slice none 0 0)] 25 (0, 0))) ∧ Aside0 (wc.heap[gb409]? = some (.cells #[.int .i64 x410000_1, .int .i64 x410001_1, .int .i64 x410002_1, u410003] 25 (0, 0))) ∧ Aside0 (IsS72 w0 wc g s0_0 x1001_13) ∧ Aside0 (KeepBut w wc g none) ∧ Aside0 (Below w0.heap.size w0 wc))
    case first =>
     have H := HC14.out
     clear HC14
     by_cases c15 : x6_1 < 4
     ·rw [if_pos c15] at H
      have c15b0 : decide (x6_1 < 4) = true := decide_eq_true c15
      clear c15
      (first | rw [c15b0] | (simp only [i64_w, i32_w]; rw [c15b0]) | skip)
      replace H := Option.bind_eq_some_iff.mp H
      obtain ⟨⟨t410, t411⟩, A160, H⟩ := H
      try dsimp only at H
      have A16 := Aside0.mk A160
      clear A160
      have H' := Aside0.mk H
      clear H
      go_wp2_with (first | (go_at_call 38; (with_reducible refine (spec_l6Rd_pick.calls k1 g s0_0 x1001_1 6 t410 t411 w0 _ ?side1 ?side2 A16.out).mono ?_); (case side1 => exact IsS72.go_ HI0); (case side2 => exact hzI HB); rintro e w17 ⟨rfl, hi, hb, hk⟩; replace HO_410003 := Aside0.mk (Kd.N_mono (Kd.N_keep (Kd.N_mono (ok := fun k_ => (((w.heap.size ≤ k_)) ∧ (k_ ≠ gb399 ∧ (k_ ≠ gb409 ∧ k_ ≠ g)))) (by (with_reducible repeat (first | apply Kd.N_alloc | apply Kd.N_drewN | apply Kd.N_drew)); exact HO_410003.out) (fun k_ hk_ => (⟨hk_, hk_.2.2.2⟩ : _ ∧ k_ ≠ g))) hk (fun _ h => h.2)) (fun _ h => h.1)); replace BK399 := kb hk (bk BK399) NB399_0; replace BK409 := kb hk (bk BK409) NB409_0; replace HK := Aside0.mk (KeepBut.trans (hzk HK) hk (.inl rfl)); replace HB := Aside0.mk (hb); replace HI0 := Aside0.mk (hi); clear hi hb hk))
      go_meet
      case rel => exact ⟨_, (decide (t410 > 0)), (t411), (by first | rfl | (simp; done) | (simp [*]; done)), H', ⟨by have := HK1.out; first | omega | exact Nat.le_refl _⟩, ⟨by (with_reducible repeat (first | apply Kd.N_alloc | apply Kd.N_drewN | apply Kd.N_drew)); exact HO_410003.out⟩, ⟨bk BK399⟩, ⟨bk BK409⟩, ⟨IsS72.go_ HI0⟩, ⟨hzk HK⟩, ⟨hzI HB⟩⟩
     ·rw [if_neg c15] at H
      have c15b0 : decide (x6_1 < 4) = false := decide_eq_false c15
      clear c15
      (first | rw [c15b0] | (simp only [i64_w, i32_w]; rw [c15b0]) | skip)
      have H' := Aside0.mk H
      clear H
      go_wp2
      go_meet
      case rel => exact ⟨_, (false), (x1001_1), (by first | rfl | (simp; done) | (simp [*]; done)), H', ⟨by have := HK1.out; first | omega | exact Nat.le_refl _⟩, ⟨by (with_reducible repeat (first | apply Kd.N_alloc | apply Kd.N_drewN | apply Kd.N_drew)); exact HO_410003.out⟩, ⟨bk BK399⟩, ⟨bk BK409⟩, ⟨IsS72.go_ HI0⟩, ⟨hzk HK⟩, ⟨hzI HB⟩⟩
    case rest =>
     clear HC14
     try clear c1
     try clear p2
     try clear c3
     try clear c5
     try clear p6
     try clear c10
     try clear c11
     try clear c15
     try clear c15b0
     try clear hcz12_0 hcz12_1 hcz12_2 hcz12_3
     try clear hfz12_0 hfz12_1 hfz12_2 hfz12_3
     try clear p2
     try clear p6
     obtain ⟨kq, x21_13, x1001_13, rfl, HA, HJ13, HO_410003, BK399, BK409, HI0, HK, HB⟩ := hcut
     cases kq with
     | zero => exact absurd HA.out (by simp [spec_l71Bent.j1])
     | succ kj13 =>
      have H := HA.out
      clear HA
      simp only [spec_l71Bent.j1] at H
      by_cases c18 : x21_13 = true
      ·subst c18
       rw [if_pos rfl] at H
       replace H := Option.bind_eq_some_iff.mp H
       obtain ⟨⟨t412, t413, t414⟩, A190, H⟩ := H
       try dsimp only at H
       have A19 := Aside0.mk A190
       clear A190
       by_cases c20 : t414 = true
       ·subst c20
        rw [if_pos rfl] at H
        have H' := Aside0.mk H
        clear H
        have hnb21 := NB409_399.out
        have hnc21 := NB399_409.out
        have hnb22 := NB409_0.out
        have hnc22 := NB0_409.out
        obtain ⟨hcz23_0, hcz23_1, hcz23_2, hcz23_3, hfz23_0, hfz23_1, hfz23_2, hfz23_3⟩ := cz4 BK409
        obtain ⟨Ao24, co24, eo24⟩ := Kd.N_slice HO_410003.out
        subst eo24
        go_wp2_with (first | ((with_reducible refine gate_callee (f := 31) rfl ?_); refine gL 26 Try.func31 #[.agg #[.int .i64 x410000_1, .int .i64 x410001_1, .int .i64 x410002_1, .slice Ao24 x410003_1.length co24]] ?_; (with_reducible refine (spec_ExprSpan.calls kj13 x410000_1 x410001_1 x410002_1 _ _ x410003_1 t412 t413 true _ ?side1 ?side2 A19.out).mono ?_); (case side1 => repeat (first | exact (Kd.N_reads' HO_410003.out).2.2 | (with_reducible refine Kd.C_alloc ?_ _) | (with_reducible refine Kd.C_drewN ?_ _) | (with_reducible refine Kd.C_drew ?_))); (case side2 => exact (Kd.N_reads' HO_410003.out).2.1); rintro e w25 ⟨rfl, hb⟩; refine ⟨_, rfl, ?_⟩; replace HO_410003 := Aside0.mk (Kd.N_below (by (with_reducible repeat (first | apply Kd.N_alloc | apply Kd.N_drewN | apply Kd.N_drew)); exact HO_410003.out) hb); replace BK399 := bb (bk BK399) hb; replace BK409 := bb (bk BK409) hb; replace HI0 := Aside0.mk (IsS72.below (IsS72.go_ HI0) hb); replace HK := Aside0.mk (KeepBut.trans (hzk HK) (KeepBut.of_below hb g none) (.inl rfl)); replace HB := hbb (hzI HB) hb; clear hb) | ((with_reducible refine gate_dst (N := 7) rfl ?_); refine bE 7 #[.int .i64 0, .int .i64 0] 31 ?_; intro gb415 hg w26 hbox hb; have BK415 := Aside0.mk (hbox); have GW415 := ks hg (hzk HK); have GE415 := kw HW0 hg (hzk HK); have NB399_415 := nl hg (bk BK399); have NB415_399 := ng hg (bk BK399); have NB409_415 := nl hg (bk BK409); have NB415_409 := ng hg (bk BK409); have NB0_415 := nL hg (IsS72.lt (show IsS72 w0 _ g s0_0 x1001_13 from IsS72.go_ HI0)); have NB415_0 := nG hg (IsS72.lt (show IsS72 w0 _ g s0_0 x1001_13 from IsS72.go_ HI0)); replace HO_410003 := Aside0.mk (Kd.N_below (Kd.N_elderB (by (with_reducible repeat (first | apply Kd.N_alloc | apply Kd.N_drewN | apply Kd.N_drew)); exact HO_410003.out) gb415 (Nat.le_of_eq hg.symm)) hb); replace BK399 := bb (bk BK399) hb; replace BK409 := bb (bk BK409) hb; replace HI0 := Aside0.mk (IsS72.below (IsS72.go_ HI0) hb); replace HK := Aside0.mk (KeepBut.trans (hzk HK) (KeepBut.of_below hb g none) (.inl rfl)); replace HB := hbb (hzI HB) hb; clear hb hbox hg; have hnb27 := NB415_399.out; have hnc27 := NB399_415.out; have hnb28 := NB415_409.out; have hnc28 := NB409_415.out; have hnb29 := NB415_0.out; have hnc29 := NB0_415.out; obtain ⟨hcz30_0, hcz30_1, hfz30_0, hfz30_1⟩ := cz2 BK415))
        go_meet
        case rel => exact ⟨_, (x1001_13), (x410000_1), (x410001_1), (x410002_1), (x410003_1), (.slice Ao24 x410003_1.length co24), H', ⟨by have := HK1.out; have := HJ13.out; first | omega | exact Nat.le_refl _⟩, ⟨by (with_reducible repeat (first | apply Kd.N_alloc | apply Kd.N_drewN | apply Kd.N_drew)); exact Kd.N_mono (Kd.N_far (p := ⟨gb415, 1, none⟩) (Kd.N_far (p := ⟨gb415, 0, none⟩) (Kd.N_mono HO_410003.out (fun k_ hk => (⟨hk, hk.2⟩ : _ ∧ k_ ≠ gb415))) (fun _ hk => hk.2) (.int .i64 t412)) (fun _ hk => hk.2) (.int .i64 t413)) (fun _ hk => ⟨hk.1.1.1, ⟨hk.1.1.2.1, ⟨hk.1.1.2.2.1, hk.1.1.2.2.2⟩⟩⟩)⟩, ⟨bk1 BK399 NB399_415⟩, ⟨bk1 BK409 NB409_415⟩, ⟨IsS72.go_ HI0⟩, ⟨hzk HK⟩, ⟨hzI HB⟩⟩
       ·replace c20 := Bool.eq_false_iff.mpr c20
        subst c20
        rw [if_neg (show ¬ (false = true) by decide)] at H
        replace H := Option.bind_eq_some_iff.mp H
        obtain ⟨⟨t416, t417⟩, A310, H⟩ := H
        try dsimp only at H
        have A31 := Aside0.mk A310
        clear A310
        replace H := Option.bind_eq_some_iff.mp H
        obtain ⟨⟨t418, t419, t420, t421, t424⟩, A320, H⟩ := H
        try dsimp only at H
        have A32 := Aside0.mk A320
        clear A320
        have H' := Aside0.mk H
        clear H
        have hnb33 := NB409_399.out
        have hnc33 := NB399_409.out
        have hnb34 := NB409_0.out
        have hnc34 := NB0_409.out
        obtain ⟨hcz35_0, hcz35_1, hcz35_2, hcz35_3, hfz35_0, hfz35_1, hfz35_2, hfz35_3⟩ := cz4 BK409
        obtain ⟨Ao36, co36, eo36⟩ := Kd.N_slice HO_410003.out
        subst eo36
        go_wp2_with (first | ((with_reducible refine gate_callee (f := 31) rfl ?_); refine gL 26 Try.func31 #[.agg #[.int .i64 x410000_1, .int .i64 x410001_1, .int .i64 x410002_1, .slice Ao36 x410003_1.length co36]] ?_; (with_reducible refine (spec_ExprSpan.calls kj13 x410000_1 x410001_1 x410002_1 _ _ x410003_1 t412 t413 false _ ?side1 ?side2 A19.out).mono ?_); (case side1 => repeat (first | exact (Kd.N_reads' HO_410003.out).2.2 | (with_reducible refine Kd.C_alloc ?_ _) | (with_reducible refine Kd.C_drewN ?_ _) | (with_reducible refine Kd.C_drew ?_))); (case side2 => exact (Kd.N_reads' HO_410003.out).2.1); rintro e w37 ⟨rfl, hb⟩; refine ⟨_, rfl, ?_⟩; replace HO_410003 := Aside0.mk (Kd.N_below (by (with_reducible repeat (first | apply Kd.N_alloc | apply Kd.N_drewN | apply Kd.N_drew)); exact HO_410003.out) hb); replace BK399 := bb (bk BK399) hb; replace BK409 := bb (bk BK409) hb; replace HI0 := Aside0.mk (IsS72.below (IsS72.go_ HI0) hb); replace HK := Aside0.mk (KeepBut.trans (hzk HK) (KeepBut.of_below hb g none) (.inl rfl)); replace HB := hbb (hzI HB) hb; clear hb) | ((with_reducible refine gate_dst (N := 7) rfl ?_); refine bE 7 #[.int .i64 0, .int .i64 0] 31 ?_; intro gb415 hg w38 hbox hb; have BK415 := Aside0.mk (hbox); have GW415 := ks hg (hzk HK); have GE415 := kw HW0 hg (hzk HK); have NB399_415 := nl hg (bk BK399); have NB415_399 := ng hg (bk BK399); have NB409_415 := nl hg (bk BK409); have NB415_409 := ng hg (bk BK409); have NB0_415 := nL hg (IsS72.lt (show IsS72 w0 _ g s0_0 x1001_13 from IsS72.go_ HI0)); have NB415_0 := nG hg (IsS72.lt (show IsS72 w0 _ g s0_0 x1001_13 from IsS72.go_ HI0)); replace HO_410003 := Aside0.mk (Kd.N_below (Kd.N_elderB (by (with_reducible repeat (first | apply Kd.N_alloc | apply Kd.N_drewN | apply Kd.N_drew)); exact HO_410003.out) gb415 (Nat.le_of_eq hg.symm)) hb); replace BK399 := bb (bk BK399) hb; replace BK409 := bb (bk BK409) hb; replace HI0 := Aside0.mk (IsS72.below (IsS72.go_ HI0) hb); replace HK := Aside0.mk (KeepBut.trans (hzk HK) (KeepBut.of_below hb g none) (.inl rfl)); replace HB := hbb (hzI HB) hb; clear hb hbox hg; have hnb39 := NB415_399.out; have hnc39 := NB399_415.out; have hnb40 := NB415_409.out; have hnc40 := NB409_415.out; have hnb41 := NB415_0.out; have hnc41 := NB0_415.out; obtain ⟨hcz42_0, hcz42_1, hfz42_0, hfz42_1⟩ := cz2 BK415) | ((with_reducible refine gate_callee (f := 38) rfl ?_); refine gL 32 Try.func38 #[.pointer (some ⟨g, 0, none⟩), .int .i64 4] ?_; (with_reducible refine (spec_l6Rd_pick.calls kj13 g s0_0 x1001_13 4 t416 t417 w0 _ ?side1 ?side2 A31.out).mono ?_); (case side1 => exact IsS72.go_ HI0); (case side2 => exact hzI HB); rintro e w43 ⟨rfl, hi, hb, hk⟩; refine ⟨_, rfl, ?_⟩; replace HO_410003 := Aside0.mk (Kd.N_mono (Kd.N_keep (Kd.N_mono (ok := fun k_ => ((((w.heap.size ≤ k_)) ∧ (k_ ≠ gb399 ∧ (k_ ≠ gb409 ∧ k_ ≠ g))) ∧ k_ ≠ gb415)) (by (with_reducible repeat (first | apply Kd.N_alloc | apply Kd.N_drewN | apply Kd.N_drew)); exact (Kd.N_mono (Kd.N_far (p := ⟨gb415, 1, none⟩) (Kd.N_far (p := ⟨gb415, 0, none⟩) (Kd.N_mono HO_410003.out (fun k_ hk => (⟨hk, hk.2⟩ : _ ∧ k_ ≠ gb415))) (fun _ hk => hk.2) (.int .i64 t412)) (fun _ hk => hk.2) (.int .i64 t413)) (fun _ h_ => h_.1))) (fun k_ hk_ => (⟨hk_, hk_.1.2.2.2⟩ : _ ∧ k_ ≠ g))) hk (fun _ h => h.2)) (fun _ h => h.1)); replace BK399 := kb hk (bk1 BK399 NB399_415) NB399_0; replace BK409 := kb hk (bk1 BK409 NB409_415) NB409_0; replace BK415 := kb (o := .cells #[.int .i64 t412, .int .i64 t413] 31 (0, 0)) hk (bkp BK415) NB415_0; replace HK := Aside0.mk (KeepBut.trans (hzk HK) hk (.inl rfl)); replace HB := Aside0.mk (hb); replace HI0 := Aside0.mk (hi); clear hi hb hk) | ((with_reducible refine gate_callee (f := 55) rfl ?_); refine gL 35 Try.func55 #[.pointer (some ⟨g, 0, none⟩), .int .i64 (wrap64 (1 + t416)), .bool a1] ?_; (with_reducible refine (spec_l71Expr.calls kj13 g s0_0 t417 (wrap64 (1 + t416)) a1 t418 t419 t420 t421 t424 w0 _ ?side1 ?side2 A32.out).mono ?_); (case side1 => exact IsS72.go_ HI0); (case side2 => exact hzI HB); rintro e w44 ⟨v422, rfl, ho0, hi, hb, hk⟩; refine ⟨_, rfl, ?_⟩; have HO423 := Aside0.mk (Kd.N_lower (Kd.N_mono (ok' := fun k_ => (w.heap.size ≤ k_) ∧ some k_ ≠ (.slice Ao36 x410003_1.length co36 : Value).ownBlock ∧ k_ ≠ gb399 ∧ k_ ≠ gb409 ∧ k_ ≠ gb415 ∧ k_ ≠ g) (Kd.R_N (Kd.R_bound ho0)) (fun k_ hk_ => ⟨(Nat.le_trans (keep_size (w := w) (g := g) (row := none) (hzk HK)) hk_.2.1), (Kd.fresh' (Kd.N_lt (by (with_reducible repeat (first | apply Kd.N_alloc | apply Kd.N_drewN | apply Kd.N_drew)); exact HO_410003.out)) k_ hk_.2.1), (Kd.freshB (g := gb399) (o := .cells #[.int .i64 0, .int .i64 0, .int .i64 0, .slice none 0 0] 25 (0, 0)) (bk BK399) k_ hk_.2.1), (Kd.freshB (g := gb409) (o := .cells #[.int .i64 x410000_1, .int .i64 x410001_1, .int .i64 x410002_1, .slice Ao36 x410003_1.length co36] 25 (0, 0)) (bk BK409) k_ hk_.2.1), (Kd.freshB (g := gb415) (o := .cells #[.int .i64 t412, .int .i64 t413] 31 (0, 0)) (bk BK415) k_ hk_.2.1), (IsS72.fresh (IsS72.go_ HI0) k_ hk_.2.1)⟩)) (keep_size (w := w) (g := g) (row := none) (hzk HK))); replace HO_410003 := Aside0.mk (Kd.N_mono (Kd.N_told (Kd.N_oldK (Kd.N_mono (ok := fun k_ => ((((w.heap.size ≤ k_)) ∧ (k_ ≠ gb399 ∧ (k_ ≠ gb409 ∧ k_ ≠ g))) ∧ k_ ≠ gb415)) (by (with_reducible repeat (first | apply Kd.N_alloc | apply Kd.N_drewN | apply Kd.N_drew)); exact HO_410003.out) (fun k_ hk_ => (⟨hk_, hk_.1.2.2.2⟩ : _ ∧ k_ ≠ g))) hk) (Kd.N_base (Kd.R_N ho0))) (fun _ h_ => h_.1)); replace BK399 := kb hk (bk BK399) NB399_0; replace BK409 := kb hk (bk BK409) NB409_0; replace BK415 := kb hk (bk BK415) NB415_0; replace HK := Aside0.mk (KeepBut.trans (hzk HK) hk (.inl rfl)); replace HB := Aside0.mk (hb); replace HI0 := Aside0.mk (hi); (try clear hb); (try clear hb2); (try clear hk); (try clear hi); (try clear ho0); obtain ⟨hcz45_0, hcz45_1, hcz45_2, hcz45_3, hfz45_0, hfz45_1, hfz45_2, hfz45_3⟩ := cz4 BK409; obtain ⟨Ao46, co46, eo46⟩ := Kd.N_slice HO423.out; subst eo46))
        go_roundg kj13
        case measure => have := HK1.out; have := HJ13.out; omega
        case rel => exact ⟨(wrap64 (x6_1 + 1)), (t424), (t418), (t419), (t420), (t421), (.slice Ao46 t421.length co46), (by first | rfl | (simp; done) | (simp [*]; done)), H', ⟨by have := HK1.out; have := HJ13.out; omega⟩, ⟨by (with_reducible repeat (first | apply Kd.N_alloc | apply Kd.N_drewN | apply Kd.N_drew)); exact Kd.N_mono (Kd.N_far (p := ⟨gb409, 3, none⟩) (Kd.N_far (p := ⟨gb409, 2, none⟩) (Kd.N_far (p := ⟨gb409, 1, none⟩) (Kd.N_far (p := ⟨gb409, 0, none⟩) (Kd.N_mono HO423.out (fun k_ hk => (⟨hk, hk.2.2.2.1⟩ : _ ∧ k_ ≠ gb409))) (fun _ hk => hk.2) (.int .i64 t418)) (fun _ hk => hk.2) (.int .i64 t419)) (fun _ hk => hk.2) (.int .i64 t420)) (fun _ hk => hk.2) (.slice Ao46 t421.length co46)) (fun _ hk => ⟨hk.1.1, ⟨hk.1.2.2.1, ⟨hk.1.2.2.2.1, hk.1.2.2.2.2.2⟩⟩⟩)⟩, ⟨bk1 BK399 NB399_409⟩, ⟨by (with_reducible repeat (first | refine blk_drewN ?_ _ | refine blk_drew ?_ | refine blk_alloc ?_ _)); refine blk_put (cs := #[.int .i64 t418, .int .i64 t419, .int .i64 t420, .slice Ao36 x410003_1.length co36]) ?_ 3 _ rfl; (with_reducible repeat (first | refine blk_drewN ?_ _ | refine blk_drew ?_ | refine blk_alloc ?_ _)); refine blk_put (cs := #[.int .i64 t418, .int .i64 t419, .int .i64 x410002_1, .slice Ao36 x410003_1.length co36]) ?_ 2 _ rfl; (with_reducible repeat (first | refine blk_drewN ?_ _ | refine blk_drew ?_ | refine blk_alloc ?_ _)); refine blk_put (cs := #[.int .i64 t418, .int .i64 x410001_1, .int .i64 x410002_1, .slice Ao36 x410003_1.length co36]) ?_ 1 _ rfl; (with_reducible repeat (first | refine blk_drewN ?_ _ | refine blk_drew ?_ | refine blk_alloc ?_ _)); refine blk_put (cs := #[.int .i64 x410000_1, .int .i64 x410001_1, .int .i64 x410002_1, .slice Ao36 x410003_1.length co36]) ?_ 0 _ rfl; (with_reducible repeat (first | refine blk_drewN ?_ _ | refine blk_drew ?_ | refine blk_alloc ?_ _)); exact BK409.out⟩, ⟨IsS72.go_ HI0⟩, ⟨hzk HK⟩, ⟨hzI HB⟩⟩
      ·replace c18 := Bool.eq_false_iff.mpr c18
       subst c18
       rw [if_neg (show ¬ (false = true) by decide)] at H
       have H' := Aside0.mk H
       clear H
       go_wp2
       go_meet
       case rel => exact ⟨_, (x1001_13), (x410000_1), (x410001_1), (x410002_1), (x410003_1), (u410003), H', ⟨by have := HK1.out; have := HJ13.out; first | omega | exact Nat.le_refl _⟩, ⟨by (with_reducible repeat (first | apply Kd.N_alloc | apply Kd.N_drewN | apply Kd.N_drew)); exact HO_410003.out⟩, ⟨bk BK399⟩, ⟨bk BK409⟩, ⟨IsS72.go_ HI0⟩, ⟨hzk HK⟩, ⟨hzI HB⟩⟩
 case rest =>
  clear HC5
  try clear c1
  try clear c2
  try clear p2
  try clear c3
  try clear c4
  try clear c5
  try clear p6
  try clear c10
  try clear c11
  try clear c15
  try clear c15b0
  try clear c18
  try clear c20
  try clear c21
  try clear c22
  try clear c27
  try clear c28
  try clear c29
  try clear c31
  try clear c33
  try clear c34
  try clear c37
  try clear c38
  try clear c39
  try clear c40
  try clear c41
  try clear hcz12_0 hcz12_1 hcz12_2 hcz12_3
  try clear hcz23_0 hcz23_1 hcz23_2 hcz23_3
  try clear hcz30_0 hcz30_1
  try clear hcz35_0 hcz35_1 hcz35_2 hcz35_3
  try clear hcz42_0 hcz42_1
  try clear hcz45_0 hcz45_1 hcz45_2 hcz45_3
  try clear hfz12_0 hfz12_1 hfz12_2 hfz12_3
  try clear hfz23_0 hfz23_1 hfz23_2 hfz23_3
  try clear hfz30_0 hfz30_1
  try clear hfz35_0 hfz35_1 hfz35_2 hfz35_3
  try clear hfz42_0 hfz42_1
  try clear hfz45_0 hfz45_1 hfz45_2 hfz45_3
  try clear p2
  try clear p6
  obtain ⟨kq, x1001_4, x410000_4, x410001_4, x410002_4, x410003_4, u410003, HA, HJ4, HO_410003, BK399, BK409, HI0, HK, HB⟩ := hcut
  cases kq with
  | zero => exact absurd HA.out (by simp [spec_l71Bent.j2])
  | succ kj4 =>
   have H := HA.out
   clear HA
   simp only [spec_l71Bent.j2] at H
   replace H := Option.bind_eq_some_iff.mp H
   obtain ⟨⟨t425, t426⟩, A470, H⟩ := H
   try dsimp only at H
   have A47 := Aside0.mk A470
   clear A470
   by_cases c48 : t425 = 0
   ·rw [if_pos c48] at H
    have c48b0 : (t425 == 0) = true := beq_iff_eq.mpr c48
    have c48b1 : (t425 != 0) = false := bne_eq_false_iff_eq.mpr c48
    clear c48
    replace H := Option.bind_eq_some_iff.mp H
    obtain ⟨⟨t427, t428⟩, A490, H⟩ := H
    try dsimp only at H
    have A49 := Aside0.mk A490
    clear A490
    simp only [Option.some.injEq, Prod.mk.injEq] at H
    obtain ⟨rfl, rfl, rfl, rfl, rfl⟩ := H
    go_wp2_with (first | ((with_reducible refine gate_callee (f := 38) rfl ?_); refine gL 37 Try.func38 #[.pointer (some ⟨g, 0, none⟩), .int .i64 24] ?_; (with_reducible refine (spec_l6Rd_pick.calls kj4 g s0_0 x1001_4 24 t425 t426 w0 _ ?side1 ?side2 A47.out).mono ?_); (case side1 => exact IsS72.go_ HI0); (case side2 => exact hzI HB); rintro e w50 ⟨rfl, hi, hb, hk⟩; refine ⟨_, rfl, ?_⟩; replace HO_410003 := Aside0.mk (Kd.N_mono (Kd.N_keep (Kd.N_mono (ok := fun k_ => (((w.heap.size ≤ k_)) ∧ (k_ ≠ gb399 ∧ (k_ ≠ gb409 ∧ k_ ≠ g)))) (by (with_reducible repeat (first | apply Kd.N_alloc | apply Kd.N_drewN | apply Kd.N_drew)); exact HO_410003.out) (fun k_ hk_ => (⟨hk_, hk_.2.2.2⟩ : _ ∧ k_ ≠ g))) hk (fun _ h => h.2)) (fun _ h => h.1)); replace BK399 := kb hk (bk BK399) NB399_0; replace BK409 := kb hk (bk BK409) NB409_0; replace HK := Aside0.mk (KeepBut.trans (hzk HK) hk (.inl rfl)); replace HB := Aside0.mk (hb); replace HI0 := Aside0.mk (hi); clear hi hb hk) | ((with_reducible refine gate_callee (f := 38) rfl ?_); refine gL 41 Try.func38 #[.pointer (some ⟨g, 0, none⟩), .int .i64 11] ?_; (with_reducible refine (spec_l6Rd_pick.calls kj4 g s0_0 t426 11 t427 t428 w0 _ ?side1 ?side2 A49.out).mono ?_); (case side1 => exact IsS72.go_ HI0); (case side2 => exact hzI HB); rintro e w51 ⟨rfl, hi, hb, hk⟩; refine ⟨_, rfl, ?_⟩; replace HO_410003 := Aside0.mk (Kd.N_mono (Kd.N_keep (Kd.N_mono (ok := fun k_ => (((w.heap.size ≤ k_)) ∧ (k_ ≠ gb399 ∧ (k_ ≠ gb409 ∧ k_ ≠ g)))) (by (with_reducible repeat (first | apply Kd.N_alloc | apply Kd.N_drewN | apply Kd.N_drew)); exact HO_410003.out) (fun k_ hk_ => (⟨hk_, hk_.2.2.2⟩ : _ ∧ k_ ≠ g))) hk (fun _ h => h.2)) (fun _ h => h.1)); replace BK399 := kb hk (bk BK399) NB399_0; replace BK409 := kb hk (bk BK409) NB409_0; replace HK := Aside0.mk (KeepBut.trans (hzk HK) hk (.inl rfl)); replace HB := Aside0.mk (hb); replace HI0 := Aside0.mk (hi); clear hi hb hk; have hnb52 := NB409_399.out; have hnc52 := NB399_409.out; have hnb53 := NB409_0.out; have hnc53 := NB0_409.out; obtain ⟨hcz54_0, hcz54_1, hcz54_2, hcz54_3, hfz54_0, hfz54_1, hfz54_2, hfz54_3⟩ := cz4 BK409; have hnb55 := NB399_0.out; have hnc55 := NB0_399.out; obtain ⟨hcz56_0, hcz56_1, hcz56_2, hcz56_3, hfz56_0, hfz56_1, hfz56_2, hfz56_3⟩ := cz4 BK399; obtain ⟨Ao57, co57, eo57⟩ := Kd.N_slice HO_410003.out; subst eo57))
    refine bodyPost_ret (results_cell_row rfl _ _ gb399 25 #[.int .i64 (wrap64 (t427 - 1)), .int .i64 x410001_4, .int .i64 x410002_4, .slice Ao57 x410003_4.length co57] (0, 0) _ rfl (by (with_reducible repeat (first | refine blk_drewN ?_ _ | refine blk_drew ?_ | refine blk_alloc ?_ _)); refine blk_put (cs := #[.int .i64 (wrap64 (t427 - 1)), .int .i64 x410001_4, .int .i64 x410002_4, .slice none 0 0]) ?_ 3 _ rfl; (with_reducible repeat (first | refine blk_drewN ?_ _ | refine blk_drew ?_ | refine blk_alloc ?_ _)); refine blk_put (cs := #[.int .i64 (wrap64 (t427 - 1)), .int .i64 x410001_4, .int .i64 0, .slice none 0 0]) ?_ 2 _ rfl; (with_reducible repeat (first | refine blk_drewN ?_ _ | refine blk_drew ?_ | refine blk_alloc ?_ _)); refine blk_put (cs := #[.int .i64 (wrap64 (t427 - 1)), .int .i64 0, .int .i64 0, .slice none 0 0]) ?_ 1 _ rfl; (with_reducible repeat (first | refine blk_drewN ?_ _ | refine blk_drew ?_ | refine blk_alloc ?_ _)); refine blk_put (cs := #[.int .i64 0, .int .i64 0, .int .i64 0, .slice none 0 0]) ?_ 0 _ rfl; (with_reducible repeat (first | refine blk_drewN ?_ _ | refine blk_drew ?_ | refine blk_alloc ?_ _)); refine blk_far ?_ NB399_409.out _; (with_reducible repeat (first | refine blk_drewN ?_ _ | refine blk_drew ?_ | refine blk_alloc ?_ _)); exact BK399.out) Try.underlying25 rfl (by kernel_rfl)) rfl ?_
    exact ⟨_, by first | rfl | (simp [errW_none, errW_some] <;> rfl) | (simp [*, errW_none, errW_some] <;> rfl), by (with_reducible repeat (first | apply Kd.N_alloc | apply Kd.N_drewN | apply Kd.N_drew)); exact Kd.N_mono (Kd.N_far (p := ⟨gb399, 3, none⟩) (Kd.N_far (p := ⟨gb399, 2, none⟩) (Kd.N_far (p := ⟨gb399, 1, none⟩) (Kd.N_far (p := ⟨gb399, 0, none⟩) (Kd.N_far (p := ⟨gb409, 0, none⟩) (Kd.N_mono (Kd.N_mono HO_410003.out (fun k_ hk => (⟨hk, hk.2.2.1⟩ : _ ∧ k_ ≠ gb409))) (fun k_ hk => (⟨hk, hk.1.2.1⟩ : _ ∧ k_ ≠ gb399))) (fun _ hk => hk.1.2) (.int .i64 (wrap64 (t427 - 1)))) (fun _ hk => hk.2) (.int .i64 (wrap64 (t427 - 1)))) (fun _ hk => hk.2) (.int .i64 x410001_4)) (fun _ hk => hk.2) (.int .i64 x410002_4)) (fun _ hk => hk.2) (.slice Ao57 x410003_4.length co57)) (fun _ hk => hk.1.1.1), IsS72.go_ HI0, hzI HB, hzk HK⟩
   ·rw [if_neg c48] at H
    have c48b0 : (t425 == 0) = false := beq_eq_false_iff_ne.mpr c48
    have c48b1 : (t425 != 0) = true := bne_iff_ne.mpr c48
    by_cases c58 : t425 = 1
    ·rw [if_pos c58] at H
     have c58b0 : (t425 == 1) = true := beq_iff_eq.mpr c58
     have c58b1 : (t425 != 1) = false := bne_eq_false_iff_eq.mpr c58
     clear c58
     obtain ⟨y429, hy429⟩ : ∃ y_ : List Int, y_ = (([1001, (-1001), 1] : List Int)) := ⟨_, rfl⟩
     replace H : ((spec_l6Rd_pick.f kj4 s0_0 t426 3).bind fun bt432 => (if 0 ≤ bt432.1 then (if bt432.1 < (y429.length : Int) then (some (x410000_4, rd y429 bt432.1, x410002_4, x410003_4, bt432.2)) else (none)) else (none))) = some (r1, r2, r3, r4, r5) := by first | (rw [hy429]; with_reducible exact H) | (have H2_ := (Option.bind_some _ _).symm.trans H; rw [hy429]; with_reducible exact H2_) | (have H2_ := (Option.bind_some _ _).symm.trans H; with_reducible exact H2_) | with_reducible exact H | (rw [hy429]; exact H) | exact H
     have Ny429 := Aside0.mk hy429
     clear hy429
     replace H := Option.bind_eq_some_iff.mp H
     obtain ⟨⟨t432, t433⟩, A590, H⟩ := H
     try dsimp only at H
     have A59 := Aside0.mk A590
     clear A590
     by_cases c60 : 0 ≤ t432
     ·rw [if_pos c60] at H
      have c60b0 : decide (0 ≤ t432) = true := decide_eq_true c60
      clear c60
      by_cases c61 : t432 < (y429.length : Int)
      ·rw [if_pos c61] at H
       have c61b0 : decide (t432 < (y429.length : Int)) = true := decide_eq_true c61
       clear c61
       simp only [Option.some.injEq, Prod.mk.injEq] at H
       obtain ⟨rfl, rfl, rfl, rfl, rfl⟩ := H
       go_wp2_with (first | ((with_reducible refine gate_callee (f := 38) rfl ?_); refine gL 37 Try.func38 #[.pointer (some ⟨g, 0, none⟩), .int .i64 24] ?_; (with_reducible refine (spec_l6Rd_pick.calls kj4 g s0_0 x1001_4 24 t425 t426 w0 _ ?side1 ?side2 A47.out).mono ?_); (case side1 => exact IsS72.go_ HI0); (case side2 => exact hzI HB); rintro e w62 ⟨rfl, hi, hb, hk⟩; refine ⟨_, rfl, ?_⟩; replace HO_410003 := Aside0.mk (Kd.N_mono (Kd.N_keep (Kd.N_mono (ok := fun k_ => (((w.heap.size ≤ k_)) ∧ (k_ ≠ gb399 ∧ (k_ ≠ gb409 ∧ k_ ≠ g)))) (by (with_reducible repeat (first | apply Kd.N_alloc | apply Kd.N_drewN | apply Kd.N_drew)); exact HO_410003.out) (fun k_ hk_ => (⟨hk_, hk_.2.2.2⟩ : _ ∧ k_ ≠ g))) hk (fun _ h => h.2)) (fun _ h => h.1)); replace BK399 := kb hk (bk BK399) NB399_0; replace BK409 := kb hk (bk BK409) NB409_0; replace HK := Aside0.mk (KeepBut.trans (hzk HK) hk (.inl rfl)); replace HB := Aside0.mk (hb); replace HI0 := Aside0.mk (hi); clear hi hb hk) | ((with_reducible refine gate_dst (N := 46) rfl ?_); refine Kd.R_lit (Kd.int .i64) _ 3 ?hg (N := 46) ?hd (xs := ([1001, (-1001), 1] : List Int)) (inner := [.int .i64 1001, .int .i64 (-1001), .int .i64 1]) (ok := fun _ => True) (okp := fun _ => True) ?hr ?hp (fun _ hk => hk) trivial (Below.refl _ _) (Nat.le_refl _) (by simp) ?_; (case hd => rfl); (case hg => rfl); (case hr => first | (go_simp; done) | (go_simp; rfl)); (case hp => exact (Reps.one (show Kd.M (Kd.int .i64) _ _ _ 1001 [.int .i64 1001] from rfl) (Reps.one (show Kd.M (Kd.int .i64) _ _ _ (-1001) [.int .i64 (-1001)] from rfl) (Reps.one (show Kd.M (Kd.int .i64) _ _ _ 1 [.int .i64 1] from rfl) (Reps.none _ _))))); intro v430 w63 ho64 hb hg_ hnew_; clear hg_ hnew_; (first | rw [← Ny429.out] at ho64 | (simp only [Int.reduceToNat] at ho64; rw [← Ny429.out] at ho64)); have HO431 := Aside0.mk (Kd.R_lower (Kd.R_newM (M := fun k_ => (w.heap.size ≤ k_)) ho64 (keep_size (w := w) (g := g) (row := none) (hzk HK)) (fun k_ h_ => h_)) (keep_size (w := w) (g := g) (row := none) (hzk HK))); replace HO_410003 := Aside0.mk (Kd.N_elder' (by (with_reducible repeat (first | apply Kd.N_alloc | apply Kd.N_drewN | apply Kd.N_drew)); exact HO_410003.out) (Kd.R_base ho64) hb); replace BK399 := bb (bk BK399) hb; replace BK409 := bb (bk BK409) hb; replace HI0 := Aside0.mk (IsS72.below (IsS72.go_ HI0) hb); replace HK := Aside0.mk (KeepBut.trans (hzk HK) (KeepBut.of_below hb g none) (.inl rfl)); replace HB := hbb (hzI HB) hb; clear hb ho64) | ((with_reducible refine gate_callee (f := 38) rfl ?_); refine gL 48 Try.func38 #[.pointer (some ⟨g, 0, none⟩), .int .i64 3] ?_; (with_reducible refine (spec_l6Rd_pick.calls kj4 g s0_0 t426 3 t432 t433 w0 _ ?side1 ?side2 A59.out).mono ?_); (case side1 => exact IsS72.go_ HI0); (case side2 => exact hzI HB); rintro e w65 ⟨rfl, hi, hb, hk⟩; refine ⟨_, rfl, ?_⟩; replace HO_410003 := Aside0.mk (Kd.N_mono (Kd.N_keep (Kd.N_mono (ok := fun k_ => ((((w.heap.size ≤ k_)) ∧ (k_ ≠ gb399 ∧ (k_ ≠ gb409 ∧ k_ ≠ g))) ∧ some k_ ≠ (v430 : Value).ownBlock)) (by (with_reducible repeat (first | apply Kd.N_alloc | apply Kd.N_drewN | apply Kd.N_drew)); exact HO_410003.out) (fun k_ hk_ => (⟨hk_, hk_.1.2.2.2⟩ : _ ∧ k_ ≠ g))) hk (fun _ h => h.2)) (fun _ h => h.1)); replace BK399 := kb hk (bk BK399) NB399_0; replace BK409 := kb hk (bk BK409) NB409_0; replace HO431 := Aside0.mk (Kd.R_mono (Kd.R_keep (IsS72.apart (show IsS72 w0 _ g s0_0 t426 from IsS72.go_ HI0) (by (with_reducible repeat (first | apply Kd.R_alloc | apply Kd.R_drewN | apply Kd.R_drew)); exact HO431.out) (by decide)) hk (fun _ h => h.2)) (fun _ h => h.1)); replace HK := Aside0.mk (KeepBut.trans (hzk HK) hk (.inl rfl)); replace HB := Aside0.mk (hb); replace HI0 := Aside0.mk (hi); clear hi hb hk; obtain ⟨Ao66, co66, eo66⟩ := Kd.R_slice HO431.out; subst eo66; have p434 : 0 ≤ (t432 : Int) := of_decide_eq_true (by first | (with_reducible assumption) | assumption); have q434 : t432 < (y429.length : Int) := of_decide_eq_true (by first | (with_reducible assumption) | assumption); obtain ⟨ad434, e434, hx434_0⟩ := Kd.at_int (Kd.R_reads' HO431.out).2.2 t432 p434 q434; cases e434; replace p434 := eq_true p434; replace q434 := eq_true q434; have hnb67 := NB409_399.out; have hnc67 := NB399_409.out; have hnb68 := NB409_0.out; have hnc68 := NB0_409.out; obtain ⟨hcz69_0, hcz69_1, hcz69_2, hcz69_3, hfz69_0, hfz69_1, hfz69_2, hfz69_3⟩ := cz4 BK409; have hnb70 := NB399_0.out; have hnc70 := NB0_399.out; obtain ⟨hcz71_0, hcz71_1, hcz71_2, hcz71_3, hfz71_0, hfz71_1, hfz71_2, hfz71_3⟩ := cz4 BK399; obtain ⟨Ao72, co72, eo72⟩ := Kd.N_slice HO_410003.out; subst eo72))
       refine bodyPost_ret (results_cell_row rfl _ _ gb399 25 #[.int .i64 x410000_4, .int .i64 (rd y429 t432), .int .i64 x410002_4, .slice Ao72 x410003_4.length co72] (0, 0) _ rfl (by (with_reducible repeat (first | refine blk_drewN ?_ _ | refine blk_drew ?_ | refine blk_alloc ?_ _)); refine blk_put (cs := #[.int .i64 x410000_4, .int .i64 (rd y429 t432), .int .i64 x410002_4, .slice none 0 0]) ?_ 3 _ rfl; (with_reducible repeat (first | refine blk_drewN ?_ _ | refine blk_drew ?_ | refine blk_alloc ?_ _)); refine blk_put (cs := #[.int .i64 x410000_4, .int .i64 (rd y429 t432), .int .i64 0, .slice none 0 0]) ?_ 2 _ rfl; (with_reducible repeat (first | refine blk_drewN ?_ _ | refine blk_drew ?_ | refine blk_alloc ?_ _)); refine blk_put (cs := #[.int .i64 x410000_4, .int .i64 0, .int .i64 0, .slice none 0 0]) ?_ 1 _ rfl; (with_reducible repeat (first | refine blk_drewN ?_ _ | refine blk_drew ?_ | refine blk_alloc ?_ _)); refine blk_put (cs := #[.int .i64 0, .int .i64 0, .int .i64 0, .slice none 0 0]) ?_ 0 _ rfl; (with_reducible repeat (first | refine blk_drewN ?_ _ | refine blk_drew ?_ | refine blk_alloc ?_ _)); refine blk_far ?_ NB399_409.out _; (with_reducible repeat (first | refine blk_drewN ?_ _ | refine blk_drew ?_ | refine blk_alloc ?_ _)); exact BK399.out) Try.underlying25 rfl (by kernel_rfl)) rfl ?_
       exact ⟨_, by first | rfl | (simp [errW_none, errW_some] <;> rfl) | (simp [*, errW_none, errW_some] <;> rfl), by (with_reducible repeat (first | apply Kd.N_alloc | apply Kd.N_drewN | apply Kd.N_drew)); exact Kd.N_mono (Kd.N_far (p := ⟨gb399, 3, none⟩) (Kd.N_far (p := ⟨gb399, 2, none⟩) (Kd.N_far (p := ⟨gb399, 1, none⟩) (Kd.N_far (p := ⟨gb399, 0, none⟩) (Kd.N_far (p := ⟨gb409, 1, none⟩) (Kd.N_mono (Kd.N_mono HO_410003.out (fun k_ hk => (⟨hk, hk.1.2.2.1⟩ : _ ∧ k_ ≠ gb409))) (fun k_ hk => (⟨hk, hk.1.1.2.1⟩ : _ ∧ k_ ≠ gb399))) (fun _ hk => hk.1.2) (.int .i64 (rd y429 t432))) (fun _ hk => hk.2) (.int .i64 x410000_4)) (fun _ hk => hk.2) (.int .i64 (rd y429 t432))) (fun _ hk => hk.2) (.int .i64 x410002_4)) (fun _ hk => hk.2) (.slice Ao72 x410003_4.length co72)) (fun _ hk => hk.1.1.1.1), IsS72.go_ HI0, hzI HB, hzk HK⟩
      ·rw [if_neg c61] at H
       exact absurd H (by simp)
     ·rw [if_neg c60] at H
      exact absurd H (by simp)
    ·rw [if_neg c58] at H
     have c58b0 : (t425 == 1) = false := beq_eq_false_iff_ne.mpr c58
     have c58b1 : (t425 != 1) = true := bne_iff_ne.mpr c58
     by_cases c73 : t425 = 2
     ·rw [if_pos c73] at H
      have c73b0 : (t425 == 2) = true := beq_iff_eq.mpr c73
      have c73b1 : (t425 != 2) = false := bne_eq_false_iff_eq.mpr c73
      clear c73
      obtain ⟨y435, hy435⟩ : ∃ y_ : List (S25), y_ = (([(⟨x410000_4, x410001_4, x410002_4, x410003_4⟩ : S25), (⟨x410000_4, x410001_4, x410002_4, x410003_4⟩ : S25)] : List (S25))) := ⟨_, rfl⟩
      replace H : (some (5, 0, 0, y435, t426)) = some (r1, r2, r3, r4, r5) := by first | (rw [hy435]; with_reducible exact H) | (have H2_ := (Option.bind_some _ _).symm.trans H; rw [hy435]; with_reducible exact H2_) | (have H2_ := (Option.bind_some _ _).symm.trans H; with_reducible exact H2_) | with_reducible exact H | (rw [hy435]; exact H) | exact H
      have Ny435 := Aside0.mk hy435
      clear hy435
      simp only [Option.some.injEq, Prod.mk.injEq] at H
      obtain ⟨rfl, rfl, rfl, rfl, rfl⟩ := H
      go_wp2_with (first | ((with_reducible refine gate_callee (f := 38) rfl ?_); refine gL 37 Try.func38 #[.pointer (some ⟨g, 0, none⟩), .int .i64 24] ?_; (with_reducible refine (spec_l6Rd_pick.calls kj4 g s0_0 x1001_4 24 t425 t426 w0 _ ?side1 ?side2 A47.out).mono ?_); (case side1 => exact IsS72.go_ HI0); (case side2 => exact hzI HB); rintro e w74 ⟨rfl, hi, hb, hk⟩; refine ⟨_, rfl, ?_⟩; replace HO_410003 := Aside0.mk (Kd.N_mono (Kd.N_keep (Kd.N_mono (ok := fun k_ => (((w.heap.size ≤ k_)) ∧ (k_ ≠ gb399 ∧ (k_ ≠ gb409 ∧ k_ ≠ g)))) (by (with_reducible repeat (first | apply Kd.N_alloc | apply Kd.N_drewN | apply Kd.N_drew)); exact HO_410003.out) (fun k_ hk_ => (⟨hk_, hk_.2.2.2⟩ : _ ∧ k_ ≠ g))) hk (fun _ h => h.2)) (fun _ h => h.1)); replace BK399 := kb hk (bk BK399) NB399_0; replace BK409 := kb hk (bk BK409) NB409_0; replace HK := Aside0.mk (KeepBut.trans (hzk HK) hk (.inl rfl)); replace HB := Aside0.mk (hb); replace HI0 := Aside0.mk (hi); clear hi hb hk; have hnb75 := NB409_399.out; have hnc75 := NB399_409.out; have hnb76 := NB409_0.out; have hnc76 := NB0_409.out; obtain ⟨hcz77_0, hcz77_1, hcz77_2, hcz77_3, hfz77_0, hfz77_1, hfz77_2, hfz77_3⟩ := cz4 BK409; obtain ⟨Ao78, co78, eo78⟩ := Kd.N_slice HO_410003.out; subst eo78) | ((with_reducible refine gate_dst (N := 56) rfl ?_); refine Kd.N_lit k25 _ 25 ?hg (N' := 56) ?hd (xs := ([(⟨x410000_4, x410001_4, x410002_4, x410003_4⟩ : S25), (⟨x410000_4, x410001_4, x410002_4, x410003_4⟩ : S25)] : List (S25))) (inner := [.int .i64 x410000_4, .int .i64 x410001_4, .int .i64 x410002_4, .slice Ao78 x410003_4.length co78, .int .i64 x410000_4, .int .i64 x410001_4, .int .i64 x410002_4, .slice Ao78 x410003_4.length co78]) (ok := (fun k_ => (w.heap.size ≤ k_) ∧ k_ ≠ gb399 ∧ k_ ≠ gb409 ∧ k_ ≠ g)) (okp := (fun k_ => (w.heap.size ≤ k_) ∧ k_ ≠ gb399 ∧ k_ ≠ gb409 ∧ k_ ≠ g)) ?hr ?hp (fun _ hk => hk) ((show ∀ k_, w74.heap.size ≤ k_ → (fun k_ => (w.heap.size ≤ k_) ∧ k_ ≠ gb399 ∧ k_ ≠ gb409 ∧ k_ ≠ g) k_ from fun k_ hk => ⟨(Nat.le_trans (keep_size (w := w) (g := g) (row := none) (hzk HK)) hk), Kd.freshB (g := gb399) (o := .cells #[.int .i64 0, .int .i64 0, .int .i64 0, .slice none 0 0] 25 (0, 0)) (bk BK399) k_ hk, Kd.freshB (g := gb409) (o := .cells #[.int .i64 x410000_4, .int .i64 x410001_4, .int .i64 x410002_4, .slice Ao78 x410003_4.length co78] 25 (0, 0)) (bk BK409) k_ hk, IsS72.fresh (IsS72.go_ HI0) k_ hk⟩) _ (Nat.le_refl _)) (Below.refl _ _) (Nat.le_refl _) (by simp) ?_; (case hd => rfl); (case hg => rfl); (case hr => first | (go_simp; done) | (go_simp; rfl)); (case hp => exact (Reps.c4 (show Kd.FK k25 _ _ (⟨x410000_4, x410001_4, x410002_4, x410003_4⟩ : S25) [.int .i64 x410000_4, .int .i64 x410001_4, .int .i64 x410002_4, .slice Ao78 x410003_4.length co78] from (k25_mkF _ _ (⟨x410000_4, x410001_4, x410002_4, x410003_4⟩ : S25) (Kd.N_reads' (Kd.N_mono (ok' := (fun k_ => (w.heap.size ≤ k_) ∧ k_ ≠ gb399 ∧ k_ ≠ gb409 ∧ k_ ≠ g)) (HO_410003.out) (fun k_ hk => ⟨hk.1, ⟨hk.2.1, ⟨hk.2.2.1, hk.2.2.2⟩⟩⟩))).2.1 (Kd.N_F (Kd.N_mono (ok' := (fun k_ => (w.heap.size ≤ k_) ∧ k_ ≠ gb399 ∧ k_ ≠ gb409 ∧ k_ ≠ g)) (HO_410003.out) (fun k_ hk => ⟨hk.1, ⟨hk.2.1, ⟨hk.2.2.1, hk.2.2.2⟩⟩⟩))))) (Reps.c4 (show Kd.FK k25 _ _ (⟨x410000_4, x410001_4, x410002_4, x410003_4⟩ : S25) [.int .i64 x410000_4, .int .i64 x410001_4, .int .i64 x410002_4, .slice Ao78 x410003_4.length co78] from (k25_mkF _ _ (⟨x410000_4, x410001_4, x410002_4, x410003_4⟩ : S25) (Kd.N_reads' (Kd.N_mono (ok' := (fun k_ => (w.heap.size ≤ k_) ∧ k_ ≠ gb399 ∧ k_ ≠ gb409 ∧ k_ ≠ g)) (HO_410003.out) (fun k_ hk => ⟨hk.1, ⟨hk.2.1, ⟨hk.2.2.1, hk.2.2.2⟩⟩⟩))).2.1 (Kd.N_F (Kd.N_mono (ok' := (fun k_ => (w.heap.size ≤ k_) ∧ k_ ≠ gb399 ∧ k_ ≠ gb409 ∧ k_ ≠ g)) (HO_410003.out) (fun k_ hk => ⟨hk.1, ⟨hk.2.1, ⟨hk.2.2.1, hk.2.2.2⟩⟩⟩))))) (Reps.none _ _)))); intro v436 w79 ho80 hb hg_ hnew_; clear hg_ hnew_; (first | rw [← Ny435.out] at ho80 | (simp only [Int.reduceToNat] at ho80; rw [← Ny435.out] at ho80)); have n0_ := Aside0.mk (Kd.N_lower ho80 (keep_size (w := w) (g := g) (row := none) (hzk HK))); have n1_ := bb (bk BK399) hb; have n2_ := bb (bk BK409) hb; have n3_ := Aside0.mk (IsS72.below (IsS72.go_ HI0) hb); have n4_ := Aside0.mk (KeepBut.trans (hzk HK) (KeepBut.of_below hb g none) (.inl rfl)); have n5_ := hbb (hzI HB) hb; clear BK399; clear BK409; clear HI0; clear HK; clear HB; clear HO_410003; have HO437 := n0_; have BK399 := n1_; have BK409 := n2_; have HI0 := n3_; have HK := n4_; have HB := n5_; clear n0_ n1_ n2_ n3_ n4_ n5_; clear hb ho80; obtain ⟨Ao81, co81, eo81⟩ := Kd.N_slice HO437.out; subst eo81; have hnb82 := NB399_0.out; have hnc82 := NB0_399.out; obtain ⟨hcz83_0, hcz83_1, hcz83_2, hcz83_3, hfz83_0, hfz83_1, hfz83_2, hfz83_3⟩ := cz4 BK399))
      refine bodyPost_ret (results_cell_row rfl _ _ gb399 25 #[.int .i64 5, .int .i64 0, .int .i64 0, .slice Ao81 y435.length co81] (0, 0) _ rfl (by (with_reducible repeat (first | refine blk_drewN ?_ _ | refine blk_drew ?_ | refine blk_alloc ?_ _)); refine blk_put (cs := #[.int .i64 5, .int .i64 0, .int .i64 0, .slice none 0 0]) ?_ 3 _ rfl; (with_reducible repeat (first | refine blk_drewN ?_ _ | refine blk_drew ?_ | refine blk_alloc ?_ _)); refine blk_put (cs := #[.int .i64 5, .int .i64 0, .int .i64 0, .slice none 0 0]) ?_ 2 _ rfl; (with_reducible repeat (first | refine blk_drewN ?_ _ | refine blk_drew ?_ | refine blk_alloc ?_ _)); refine blk_put (cs := #[.int .i64 5, .int .i64 0, .int .i64 0, .slice none 0 0]) ?_ 1 _ rfl; (with_reducible repeat (first | refine blk_drewN ?_ _ | refine blk_drew ?_ | refine blk_alloc ?_ _)); refine blk_put (cs := #[.int .i64 0, .int .i64 0, .int .i64 0, .slice none 0 0]) ?_ 0 _ rfl; (with_reducible repeat (first | refine blk_drewN ?_ _ | refine blk_drew ?_ | refine blk_alloc ?_ _)); exact BK399.out) Try.underlying25 rfl (by kernel_rfl)) rfl ?_
      exact ⟨_, by first | rfl | (simp [errW_none, errW_some] <;> rfl) | (simp [*, errW_none, errW_some] <;> rfl), by (with_reducible repeat (first | apply Kd.N_alloc | apply Kd.N_drewN | apply Kd.N_drew)); exact Kd.N_mono (Kd.N_far (p := ⟨gb399, 3, none⟩) (Kd.N_far (p := ⟨gb399, 2, none⟩) (Kd.N_far (p := ⟨gb399, 1, none⟩) (Kd.N_far (p := ⟨gb399, 0, none⟩) (Kd.N_mono HO437.out (fun k_ hk => (⟨hk, hk.2.1⟩ : _ ∧ k_ ≠ gb399))) (fun _ hk => hk.2) (.int .i64 5)) (fun _ hk => hk.2) (.int .i64 0)) (fun _ hk => hk.2) (.int .i64 0)) (fun _ hk => hk.2) (.slice Ao81 y435.length co81)) (fun _ hk => hk.1.1), IsS72.go_ HI0, hzI HB, hzk HK⟩
     ·rw [if_neg c73] at H
      have c73b0 : (t425 == 2) = false := beq_eq_false_iff_ne.mpr c73
      have c73b1 : (t425 != 2) = true := bne_iff_ne.mpr c73
      by_cases c84 : t425 = 3
      ·rw [if_pos c84] at H
       have c84b0 : (t425 == 3) = true := beq_iff_eq.mpr c84
       have c84b1 : (t425 != 3) = false := bne_eq_false_iff_eq.mpr c84
       clear c84
       by_cases c85 : x410003_4.length < 2932031007402
       ·rw [if_pos c85] at H
        have LMc85 := Aside0.mk c85
        clear c85
        obtain ⟨y438, hy438⟩ : ∃ y_ : List (S25), y_ = (x410003_4 ++ [(⟨1, 0, 1, ([] : List (S25))⟩ : S25)]) := ⟨_, rfl⟩
        replace H : (some (x410000_4, x410001_4, x410002_4, y438, t426)) = some (r1, r2, r3, r4, r5) := by first | (rw [hy438]; with_reducible exact H) | (have H2_ := (Option.bind_some _ _).symm.trans H; rw [hy438]; with_reducible exact H2_) | (have H2_ := (Option.bind_some _ _).symm.trans H; with_reducible exact H2_) | with_reducible exact H | (rw [hy438]; exact H) | exact H
        have Ny438 := Aside0.mk hy438
        clear hy438
        simp only [Option.some.injEq, Prod.mk.injEq] at H
        obtain ⟨rfl, rfl, rfl, rfl, rfl⟩ := H
        go_wp2_with (first | ((with_reducible refine gate_callee (f := 38) rfl ?_); refine gL 37 Try.func38 #[.pointer (some ⟨g, 0, none⟩), .int .i64 24] ?_; (with_reducible refine (spec_l6Rd_pick.calls kj4 g s0_0 x1001_4 24 t425 t426 w0 _ ?side1 ?side2 A47.out).mono ?_); (case side1 => exact IsS72.go_ HI0); (case side2 => exact hzI HB); rintro e w86 ⟨rfl, hi, hb, hk⟩; refine ⟨_, rfl, ?_⟩; replace HO_410003 := Aside0.mk (Kd.N_mono (Kd.N_keep (Kd.N_mono (ok := fun k_ => (((w.heap.size ≤ k_)) ∧ (k_ ≠ gb399 ∧ (k_ ≠ gb409 ∧ k_ ≠ g)))) (by (with_reducible repeat (first | apply Kd.N_alloc | apply Kd.N_drewN | apply Kd.N_drew)); exact HO_410003.out) (fun k_ hk_ => (⟨hk_, hk_.2.2.2⟩ : _ ∧ k_ ≠ g))) hk (fun _ h => h.2)) (fun _ h => h.1)); replace BK399 := kb hk (bk BK399) NB399_0; replace BK409 := kb hk (bk BK409) NB409_0; replace HK := Aside0.mk (KeepBut.trans (hzk HK) hk (.inl rfl)); replace HB := Aside0.mk (hb); replace HI0 := Aside0.mk (hi); clear hi hb hk; have hnb87 := NB409_399.out; have hnc87 := NB399_409.out; have hnb88 := NB409_0.out; have hnc88 := NB0_409.out; obtain ⟨hcz89_0, hcz89_1, hcz89_2, hcz89_3, hfz89_0, hfz89_1, hfz89_2, hfz89_3⟩ := cz4 BK409) | ((with_reducible refine gate_builtin (b := .append) (xs := #[.tmp 61, .tmp 63]) rfl ?_); at_builtin; refine Kd.N_append k25 w.heap.size rfl (.tmp 61) (.tmp 63) 23 25 (.agg #[(.int .i64 0), (.int .i64 0), (.int .i64 0), (.slice none 0 0)]) 48 rfl Try.underlying23 info25 rfl (by decide) (by omega) u410003 x410003_4 (⟨1, 0, 1, ([] : List (S25))⟩ : S25) [.int .i64 1, .int .i64 0, .int .i64 1, .slice none 0 0] (fun k_ => (w.heap.size ≤ k_) ∧ k_ ≠ gb399 ∧ k_ ≠ gb409 ∧ k_ ≠ g) (fun k_ => ((fun k_ => (w.heap.size ≤ k_) ∧ k_ ≠ gb399 ∧ k_ ≠ gb409 ∧ k_ ≠ g)) k_ ∧ some k_ ≠ (u410003 : Value).ownBlock) rfl rfl ?aP (fun _ hk => hk) ?aF ?aO (Below.refl _ _) ?aS ?aL ?_; (case aP => exact (k25_mkF _ _ (⟨1, 0, 1, ([] : List (S25))⟩ : S25) (Nat.le_refl _) (Kd.F_nil _ _ _))); (case aF => exact (fun k_ hk => ⟨(Nat.le_trans (keep_size (w := w) (g := g) (row := none) (hzk HK)) hk), Kd.freshB (g := gb399) (o := .cells #[.int .i64 0, .int .i64 0, .int .i64 0, .slice none 0 0] 25 (0, 0)) (bk BK399) k_ hk, Kd.freshB (g := gb409) (o := .cells #[.int .i64 x410000_4, .int .i64 x410001_4, .int .i64 x410002_4, u410003] 25 (0, 0)) (bk BK409) k_ hk, IsS72.fresh (IsS72.go_ HI0) k_ hk⟩)); (case aO => exact (by (with_reducible repeat (first | apply Kd.N_alloc | apply Kd.N_drewN | apply Kd.N_drew)); exact HO_410003.out)); (case aS => exact (keep_size (w := w) (g := g) (row := none) (hzk HK))); (case aL => have := LMc85.out; omega); intro v439 w90 ho hb hg hat; rw [← Ny438.out] at ho; have n0_ := Aside0.mk (blk_grown (g := gb399) (o := .cells #[.int .i64 0, .int .i64 0, .int .i64 0, .slice none 0 0] 25 (0, 0)) (bk BK399) hg (Kd.N_away HO_410003.out (fun _ hk => hk.2.1))); have n1_ := Aside0.mk (blk_grown (g := gb409) (o := .cells #[.int .i64 x410000_4, .int .i64 x410001_4, .int .i64 x410002_4, u410003] 25 (0, 0)) (bk BK409) hg (Kd.N_away HO_410003.out (fun _ hk => hk.2.2.1))); have n2_ := Aside0.mk (IsS72.grown (IsS72.go_ HI0) hg (IsS72.own_neN HI0.out HO_410003.out (by decide))); have n3_ := Aside0.mk (below_weaken (hzI HB) HL.out hb); have n4_ := Aside0.mk (KeepBut.trans (hzk HK) (KeepBut.of_grown hg g) (Kd.N_base2 HO_410003.out)); have n5_ := Aside0.mk (ho); clear BK399; clear BK409; clear HI0; clear HB; clear HK; clear HO_410003; have BK399 := n0_; have BK409 := n1_; have HI0 := n2_; have HB := n3_; have HK := n4_; have HO440 := n5_; clear n0_ n1_ n2_ n3_ n4_ n5_; clear ho hb hg hat; obtain ⟨Ao91, co91, eo91⟩ := Kd.N_slice HO440.out; subst eo91; obtain ⟨hcz92_0, hcz92_1, hcz92_2, hcz92_3, hfz92_0, hfz92_1, hfz92_2, hfz92_3⟩ := cz4 BK409; have hnb93 := NB399_0.out; have hnc93 := NB0_399.out; obtain ⟨hcz94_0, hcz94_1, hcz94_2, hcz94_3, hfz94_0, hfz94_1, hfz94_2, hfz94_3⟩ := cz4 BK399))
        refine bodyPost_ret (results_cell_row rfl _ _ gb399 25 #[.int .i64 x410000_4, .int .i64 x410001_4, .int .i64 x410002_4, .slice Ao91 y438.length co91] (0, 0) _ rfl (by (with_reducible repeat (first | refine blk_drewN ?_ _ | refine blk_drew ?_ | refine blk_alloc ?_ _)); refine blk_put (cs := #[.int .i64 x410000_4, .int .i64 x410001_4, .int .i64 x410002_4, .slice none 0 0]) ?_ 3 _ rfl; (with_reducible repeat (first | refine blk_drewN ?_ _ | refine blk_drew ?_ | refine blk_alloc ?_ _)); refine blk_put (cs := #[.int .i64 x410000_4, .int .i64 x410001_4, .int .i64 0, .slice none 0 0]) ?_ 2 _ rfl; (with_reducible repeat (first | refine blk_drewN ?_ _ | refine blk_drew ?_ | refine blk_alloc ?_ _)); refine blk_put (cs := #[.int .i64 x410000_4, .int .i64 0, .int .i64 0, .slice none 0 0]) ?_ 1 _ rfl; (with_reducible repeat (first | refine blk_drewN ?_ _ | refine blk_drew ?_ | refine blk_alloc ?_ _)); refine blk_put (cs := #[.int .i64 0, .int .i64 0, .int .i64 0, .slice none 0 0]) ?_ 0 _ rfl; (with_reducible repeat (first | refine blk_drewN ?_ _ | refine blk_drew ?_ | refine blk_alloc ?_ _)); refine blk_far ?_ NB399_409.out _; (with_reducible repeat (first | refine blk_drewN ?_ _ | refine blk_drew ?_ | refine blk_alloc ?_ _)); exact BK399.out) Try.underlying25 rfl (by kernel_rfl)) rfl ?_
        exact ⟨_, by first | rfl | (simp [errW_none, errW_some] <;> rfl) | (simp [*, errW_none, errW_some] <;> rfl), by (with_reducible repeat (first | apply Kd.N_alloc | apply Kd.N_drewN | apply Kd.N_drew)); exact Kd.N_mono (Kd.N_far (p := ⟨gb399, 3, none⟩) (Kd.N_far (p := ⟨gb399, 2, none⟩) (Kd.N_far (p := ⟨gb399, 1, none⟩) (Kd.N_far (p := ⟨gb399, 0, none⟩) (Kd.N_far (p := ⟨gb409, 3, none⟩) (Kd.N_mono (Kd.N_mono HO440.out (fun k_ hk => (⟨hk, hk.2.2.1⟩ : _ ∧ k_ ≠ gb409))) (fun k_ hk => (⟨hk, hk.1.2.1⟩ : _ ∧ k_ ≠ gb399))) (fun _ hk => hk.1.2) (.slice Ao91 y438.length co91)) (fun _ hk => hk.2) (.int .i64 x410000_4)) (fun _ hk => hk.2) (.int .i64 x410001_4)) (fun _ hk => hk.2) (.int .i64 x410002_4)) (fun _ hk => hk.2) (.slice Ao91 y438.length co91)) (fun _ hk => hk.1.1.1), IsS72.go_ HI0, hzI HB, hzk HK⟩
       ·rw [if_neg c85] at H
        exact absurd H (by simp)
      ·rw [if_neg c84] at H
       have c84b0 : (t425 == 3) = false := beq_eq_false_iff_ne.mpr c84
       have c84b1 : (t425 != 3) = true := bne_iff_ne.mpr c84
       simp only [Option.some.injEq, Prod.mk.injEq] at H
       obtain ⟨rfl, rfl, rfl, rfl, rfl⟩ := H
       go_wp2_with (first | ((with_reducible refine gate_callee (f := 38) rfl ?_); refine gL 37 Try.func38 #[.pointer (some ⟨g, 0, none⟩), .int .i64 24] ?_; (with_reducible refine (spec_l6Rd_pick.calls kj4 g s0_0 x1001_4 24 t425 t426 w0 _ ?side1 ?side2 A47.out).mono ?_); (case side1 => exact IsS72.go_ HI0); (case side2 => exact hzI HB); rintro e w95 ⟨rfl, hi, hb, hk⟩; refine ⟨_, rfl, ?_⟩; replace HO_410003 := Aside0.mk (Kd.N_mono (Kd.N_keep (Kd.N_mono (ok := fun k_ => (((w.heap.size ≤ k_)) ∧ (k_ ≠ gb399 ∧ (k_ ≠ gb409 ∧ k_ ≠ g)))) (by (with_reducible repeat (first | apply Kd.N_alloc | apply Kd.N_drewN | apply Kd.N_drew)); exact HO_410003.out) (fun k_ hk_ => (⟨hk_, hk_.2.2.2⟩ : _ ∧ k_ ≠ g))) hk (fun _ h => h.2)) (fun _ h => h.1)); replace BK399 := kb hk (bk BK399) NB399_0; replace BK409 := kb hk (bk BK409) NB409_0; replace HK := Aside0.mk (KeepBut.trans (hzk HK) hk (.inl rfl)); replace HB := Aside0.mk (hb); replace HI0 := Aside0.mk (hi); clear hi hb hk; have hnb96 := NB409_399.out; have hnc96 := NB399_409.out; have hnb97 := NB409_0.out; have hnc97 := NB0_409.out; obtain ⟨hcz98_0, hcz98_1, hcz98_2, hcz98_3, hfz98_0, hfz98_1, hfz98_2, hfz98_3⟩ := cz4 BK409; have hnb99 := NB399_0.out; have hnc99 := NB0_399.out; obtain ⟨hcz100_0, hcz100_1, hcz100_2, hcz100_3, hfz100_0, hfz100_1, hfz100_2, hfz100_3⟩ := cz4 BK399; obtain ⟨Ao101, co101, eo101⟩ := Kd.N_slice HO_410003.out; subst eo101))
       refine bodyPost_ret (results_cell_row rfl _ _ gb399 25 #[.int .i64 x410000_4, .int .i64 x410001_4, .int .i64 x410002_4, .slice Ao101 x410003_4.length co101] (0, 0) _ rfl (by (with_reducible repeat (first | refine blk_drewN ?_ _ | refine blk_drew ?_ | refine blk_alloc ?_ _)); refine blk_put (cs := #[.int .i64 x410000_4, .int .i64 x410001_4, .int .i64 x410002_4, .slice none 0 0]) ?_ 3 _ rfl; (with_reducible repeat (first | refine blk_drewN ?_ _ | refine blk_drew ?_ | refine blk_alloc ?_ _)); refine blk_put (cs := #[.int .i64 x410000_4, .int .i64 x410001_4, .int .i64 0, .slice none 0 0]) ?_ 2 _ rfl; (with_reducible repeat (first | refine blk_drewN ?_ _ | refine blk_drew ?_ | refine blk_alloc ?_ _)); refine blk_put (cs := #[.int .i64 x410000_4, .int .i64 0, .int .i64 0, .slice none 0 0]) ?_ 1 _ rfl; (with_reducible repeat (first | refine blk_drewN ?_ _ | refine blk_drew ?_ | refine blk_alloc ?_ _)); refine blk_put (cs := #[.int .i64 0, .int .i64 0, .int .i64 0, .slice none 0 0]) ?_ 0 _ rfl; (with_reducible repeat (first | refine blk_drewN ?_ _ | refine blk_drew ?_ | refine blk_alloc ?_ _)); exact BK399.out) Try.underlying25 rfl (by kernel_rfl)) rfl ?_
       exact ⟨_, by first | rfl | (simp [errW_none, errW_some] <;> rfl) | (simp [*, errW_none, errW_some] <;> rfl), by (with_reducible repeat (first | apply Kd.N_alloc | apply Kd.N_drewN | apply Kd.N_drew)); exact Kd.N_mono (Kd.N_far (p := ⟨gb399, 3, none⟩) (Kd.N_far (p := ⟨gb399, 2, none⟩) (Kd.N_far (p := ⟨gb399, 1, none⟩) (Kd.N_far (p := ⟨gb399, 0, none⟩) (Kd.N_mono HO_410003.out (fun k_ hk => (⟨hk, hk.2.1⟩ : _ ∧ k_ ≠ gb399))) (fun _ hk => hk.2) (.int .i64 x410000_4)) (fun _ hk => hk.2) (.int .i64 x410001_4)) (fun _ hk => hk.2) (.int .i64 x410002_4)) (fun _ hk => hk.2) (.slice Ao101 x410003_4.length co101)) (fun _ hk => hk.1.1), IsS72.go_ HI0, hzI HB, hzk HK⟩


end Go.Proofs.Ytlodpfddimeffaa.M

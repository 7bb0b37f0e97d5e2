import Derived.Test.YtlodpfddimeffaaM0
import Derived.Test.YtlodpfddimeffaaNa
import Derived.Test.YtlodpfddimeffaaNc
import Derived.Test.YtlodpfddimeffaaNd
import Derived.Test.YtlodpfddimeffaaNe
import Derived.Test.YtlodpfddimeffaaNf
namespace Go.Proofs.Ytlodpfddimeffaa.M
open Go.RowKit Go.Proofs.YtlodpfddimeffaaW.PrintWords Go.Proofs.YtlodpfddimeffaaW.PrintLast Go.Proofs.YtlodpfddimeffaaW.PrintMore
attribute [local go_sem] max2_int min2_int max_two min_two max_three min_three max_four min_four
attribute [local go_sem high] eqA31
attribute [local go_sem] fld31_0 fld31_1 fld25_0 fld25_1 fld25_2 fld25_3
set_option linter.unusedVariables false
set_option linter.unusedSimpArgs false

/-! ### spec_l31Span: function 54 -/
mutual
def spec_l31Span.l0 : Nat → List (S31) → Int → Int → Int → Int → List (S25) → Option (Int × Int × Bool)
 | 0, _, _, _, _, _, _ => none
 | k + 1, x4, x5, x245000, x245001, x245002, x245003 => if x5 < (x245003.length : Int) then (if 0 ≤ x5 then ((spec_l31Span.f k ((rd_T25 x245003 x5).f0) ((rd_T25 x245003 x5).f1) ((rd_T25 x245003 x5).f2) ((rd_T25 x245003 x5).f3)).bind fun bt250 => (if bt250.2.2 = true then (if x4.length < 8796093022208 then (spec_l31Span.l0 k (x4 ++ [(⟨bt250.1, bt250.2.1⟩ : S31)]) (wrap64 (x5 + 1)) x245000 x245001 x245002 x245003) else (none)) else (some (0, 0, false)))) else (none)) else (if x245000 = 1 then ((spec_SpanOf.f x245001 x245002).bind fun bt257 => (some (bt257.1, bt257.2.1, bt257.2.2))) else (if x245000 = 2 then (if 0 < (x4.length : Int) then ((spec_SpanNeg.f ((rd_T31 x4 0).f0) ((rd_T31 x4 0).f1)).bind fun bt261 => (some (bt261.1, bt261.2, true))) else (none)) else (if x245000 = 3 then (if 0 < (x4.length : Int) then ((spec_SpanRoot.f k ((rd_T31 x4 0).f0) ((rd_T31 x4 0).f1)).bind fun bt264 => (some (bt264.1, bt264.2.1, bt264.2.2))) else (none)) else (if x245000 = 4 then ((spec_SineOf.f k x245001).bind fun bt267 => (some (bt267.1, bt267.2.1, bt267.2.2))) else (if x245000 = 5 then (if 0 < (x4.length : Int) then (if 1 < (x4.length : Int) then ((spec_SpanAdd.f ((rd_T31 x4 0).f0) ((rd_T31 x4 0).f1) ((rd_T31 x4 1).f0) ((rd_T31 x4 1).f1)).bind fun bt272 => (some (bt272.1, bt272.2.1, bt272.2.2))) else (none)) else (none)) else (if x245000 = 6 then (if 0 < (x4.length : Int) then (if 1 < (x4.length : Int) then ((spec_SpanSub.f ((rd_T31 x4 0).f0) ((rd_T31 x4 0).f1) ((rd_T31 x4 1).f0) ((rd_T31 x4 1).f1)).bind fun bt277 => (some (bt277.1, bt277.2.1, bt277.2.2))) else (none)) else (none)) else (if x245000 = 7 then (if 0 < (x4.length : Int) then (if 1 < (x4.length : Int) then ((spec_SpanMul.f k ((rd_T31 x4 0).f0) ((rd_T31 x4 0).f1) ((rd_T31 x4 1).f0) ((rd_T31 x4 1).f1)).bind fun bt282 => (some (bt282.1, bt282.2.1, bt282.2.2))) else (none)) else (none)) else (if 0 < (x4.length : Int) then (if 1 < (x4.length : Int) then ((spec_SpanDiv.f k ((rd_T31 x4 0).f0) ((rd_T31 x4 0).f1) ((rd_T31 x4 1).f0) ((rd_T31 x4 1).f1)).bind fun bt287 => (some (bt287.1, bt287.2.1, bt287.2.2))) else (none)) else (none)))))))))
def spec_l31Span.f : Nat → Int → Int → Int → List (S25) → Option (Int × Int × Bool)
 | 0, _, _, _, _ => none
 | k + 1, a0_0, a0_1, a0_2, l0_3 => spec_l31Span.l0 k (([] : List (S31))) 0 a0_0 a0_1 a0_2 l0_3
end
def spec_l31Span.T19 : Bool × List (List Nat × List Nat) := (true, [([], []), ([0], [0]), ([1], [1]), ([], []), ([3], [3]), ([4], [4]), ([2, 5], [2, 5]), ([6], [6]), ([6], [6]), ([7, 6, 0, 1, 2, 3, 4, 5, 6, 7, 8], [7]), ([8, 9, 0, 1, 2, 3, 4, 5, 6, 7, 8, 9], [8])])
def spec_l31Span.B19 : List Nat := [0, 1, 3, 0, 8, 24, 63, 127, 127, 511, 1023]
theorem spec_l31Span.tab19 : rtab .any (opsOf Try.f54 19) = spec_l31Span.T19 := by kernel_rfl
theorem spec_l31Span.bits19 : waitsOk spec_l31Span.T19.2 spec_l31Span.B19 = true := by kernel_rfl
def spec_l31Span.T21 : Bool × List (List Nat × List Nat) := (true, [([], []), ([0], [0]), ([1], [1]), ([], []), ([3], [3]), ([4], [4]), ([2, 5], [2, 5]), ([6], [6]), ([6], [6]), ([7, 6, 0, 1, 2, 3, 4, 5, 6, 7, 8], [7]), ([8, 9, 0, 1, 2, 3, 4, 5, 6, 7, 8, 9], [8])])
def spec_l31Span.B21 : List Nat := [0, 1, 3, 0, 8, 24, 63, 127, 127, 511, 1023]
theorem spec_l31Span.tab21 : rtab .any (opsOf Try.f54 21) = spec_l31Span.T21 := by kernel_rfl
theorem spec_l31Span.bits21 : waitsOk spec_l31Span.T21.2 spec_l31Span.B21 = true := by kernel_rfl
def spec_l31Span.T23 : Bool × List (List Nat × List Nat) := (true, [([], []), ([0], [0]), ([1], [1]), ([], []), ([3], [3]), ([4], [4]), ([2, 5], [2, 5]), ([6], [6]), ([6], [6]), ([7, 6, 0, 1, 2, 3, 4, 5, 6, 7, 8], [7]), ([8, 9, 0, 1, 2, 3, 4, 5, 6, 7, 8, 9], [8])])
def spec_l31Span.B23 : List Nat := [0, 1, 3, 0, 8, 24, 63, 127, 127, 511, 1023]
theorem spec_l31Span.tab23 : rtab .any (opsOf Try.f54 23) = spec_l31Span.T23 := by kernel_rfl
theorem spec_l31Span.bits23 : waitsOk spec_l31Span.T23.2 spec_l31Span.B23 = true := by kernel_rfl
def spec_l31Span.T24 : Bool × List (List Nat × List Nat) := (true, [([], []), ([0], [0]), ([1], [1]), ([], []), ([3], [3]), ([4], [4]), ([2, 5], [2, 5]), ([6], [6]), ([6], [6]), ([7, 6, 0, 1, 2, 3, 4, 5, 6, 7, 8], [7]), ([8, 9, 0, 1, 2, 3, 4, 5, 6, 7, 8, 9], [8])])
def spec_l31Span.B24 : List Nat := [0, 1, 3, 0, 8, 24, 63, 127, 127, 511, 1023]
theorem spec_l31Span.tab24 : rtab .any (opsOf Try.f54 24) = spec_l31Span.T24 := by kernel_rfl
theorem spec_l31Span.bits24 : waitsOk spec_l31Span.T24.2 spec_l31Span.B24 = true := by kernel_rfl
set_option maxHeartbeats 8000000 in
set_option maxRecDepth 100000 in
theorem spec_l31Span.calls (k : Nat) : ∀ (a0_0 : Int) (a0_1 : Int) (a0_2 : Int) (A0_3 : Option Addr) (c0_3 : Nat) (l0_3 : List (S25)) (r1 : Int) (r2 : Int) (r3 : Bool) (w : World) (hr0_3 : Kd.C k25 w A0_3 l0_3.length l0_3) (hc0_3 : l0_3.length ≤ c0_3) (h : spec_l31Span.f k a0_0 a0_1 a0_2 l0_3 = some (r1, r2, r3)),
  Calls Try.prog 54 #[.agg #[.int .i64 a0_0, .int .i64 a0_1, .int .i64 a0_2, .slice A0_3 l0_3.length c0_3]] w fun e w' => e = .returned (.tuple #[.agg #[.int .i64 r1, .int .i64 r2], .bool r3]) ∧ Below w.heap.size w w' := by
 induction k using Nat.strongRecOn with
 | _ k ih =>
 intro a0_0 a0_1 a0_2 A0_3 c0_3 l0_3 r1 r2 r3 w hr0_3 hc0_3 h
 cases k with
 | zero => exact absurd h (by simp [spec_l31Span.f])
 | succ k =>
 simp only [spec_l31Span.f] at h
 have hu25 := Try.underlying25
 have hu31 := Try.underlying31
 have HR0_3 := Aside0.mk hr0_3
 have HC0_3 := Aside0.mk hc0_3
 clear hr0_3 hc0_3
 have HB := Aside0.mk (Below.refl w.heap.size w)
 have H : (spec_l31Span.l0 k (([] : List (S31))) 0 a0_0 a0_1 a0_2 l0_3) = some (r1, r2, r3) := h
 clear h
 obtain ⟨y246, hy246⟩ : ∃ y_ : List (S31), y_ = (([] : List (S31))) := ⟨_, rfl⟩
 replace H : (spec_l31Span.l0 k y246 0 a0_0 a0_1 a0_2 l0_3) = some (r1, r2, r3) := by first | (rw [hy246]; with_reducible exact H) | (have H2_ := (Option.bind_some _ _).symm.trans H; rw [hy246]; with_reducible exact H2_) | (have H2_ := (Option.bind_some _ _).symm.trans H; with_reducible exact H2_) | with_reducible exact H | (rw [hy246]; exact H) | exact H
 have Ny246 := Aside0.mk hy246
 clear hy246
 have H' := Aside0.mk H
 clear H
 go_enter Try.func54, Try.ntmps54
 go_wp2_with (first | ((with_reducible refine gate_dst (N := 1) rfl ?_); refine bE 1 #[.int .i64 a0_0, .int .i64 a0_1, .int .i64 a0_2, .slice A0_3 l0_3.length c0_3] 25 ?_; intro gb244 hg w2 hbox hb; have BK244 := Aside0.mk (hbox); have GE244 := gw hg (hz0 HB); replace HB := hbb (hz0 HB) hb; clear hb hbox hg) | ((with_reducible refine gate_dst (N := 2) rfl ?_); refine bE 2 #[.int .i64 0, .int .i64 0] 31 ?_; intro gb245 hg w3 hbox hb; have BK245 := Aside0.mk (hbox); have GE245 := gw hg (hzs HB); have NB244_245 := nl hg (bk BK244); have NB245_244 := ng hg (bk BK244); replace BK244 := bb (bk BK244) hb; replace HB := hbb (hzs HB) hb; clear hb hbox hg) | ((with_reducible refine gate_dst (N := 8) rfl ?_); refine Kd.R_lit k31 _ 31 ?hg (N := 8) ?hd (xs := ([] : List (S31))) (inner := []) (ok := fun _ => True) (okp := fun _ => True) ?hr ?hp (fun _ hk => hk) trivial (Below.refl _ _) (Nat.le_refl _) (by simp) ?_; (case hd => rfl); (case hg => rfl); (case hr => first | (go_simp; done) | (go_simp; rfl)); (case hp => exact (Reps.none _ _)); intro v247 w4 ho5 hb hg_ hnew_; clear hg_ hnew_; (first | rw [← Ny246.out] at ho5 | (simp only [Int.reduceToNat] at ho5; rw [← Ny246.out] at ho5)); have HO248 := Aside0.mk (Kd.R_lower (Kd.R_newB ho5 (g := gb245) (o := .cells #[.int .i64 0, .int .i64 0] 31 (0, 0)) (bk BK245)) (below_size (hzs HB))); replace BK244 := bb (bk BK244) hb; replace BK245 := bb (bk BK245) hb; replace HB := hbb (hzs HB) hb; clear hb ho5))
 go_loopg [4, 5] k (fun kq v4 v5 w' => ∃ (x4_1 : List (S31)) (x5_1 : Int) (x246000_1 : Int) (x246001_1 : Int), v5 = .int .i64 x5_1 ∧ Aside0 (spec_l31Span.l0 kq x4_1 x5_1 a0_0 a0_1 a0_2 l0_3 = some (r1, r2, r3)) ∧ Aside0 (kq ≤ k) ∧ Aside0 (Kd.R k31 31 w' w.heap.size (fun k_ => k_ ≠ gb245) v4 x4_1) ∧ Aside0 (w'.heap[gb244]? = some (.cells #[.int .i64 a0_0, .int .i64 a0_1, .int .i64 a0_2, (.slice A0_3 l0_3.length c0_3)] 25 (0, 0))) ∧ Aside0 (w'.heap[gb245]? = some (.cells #[.int .i64 x246000_1, .int .i64 x246001_1] 31 (0, 0))) ∧ Aside0 (Below w.heap.size w w'))
 case atStart => exact ⟨(y246), (0), (0), (0), (by first | rfl | (simp; done) | (simp [*]; done)), H', ⟨Nat.le_refl _⟩, ⟨by (with_reducible repeat (first | apply Kd.R_alloc | apply Kd.R_drewN | apply Kd.R_drew)); exact Kd.R_mono HO248.out (fun _ hk => hk.2)⟩, ⟨bk BK244⟩, ⟨bk BK245⟩, ⟨hzs HB⟩⟩
 case round =>
  clear H'
  try clear p2
  try clear c5
  obtain ⟨x4_1, x5_1, x246000_1, x246001_1, rfl, HA, HK1, HO_4, BK244, BK245, HB⟩ := hrel
  cases gk with
  | zero => exact absurd HA.out (by simp [spec_l31Span.l0])
  | succ k1 =>
   have H := HA.out
   clear HA
   simp only [spec_l31Span.l0] at H
   by_cases c6 : x5_1 < (l0_3.length : Int)
   ·rw [if_pos c6] at H
    have c6b0 : decide (x5_1 < (l0_3.length : Int)) = true := decide_eq_true c6
    clear c6
    by_cases c7 : 0 ≤ x5_1
    ·rw [if_pos c7] at H
     have c7b0 : decide (0 ≤ x5_1) = true := decide_eq_true c7
     clear c7
     replace H := Option.bind_eq_some_iff.mp H
     obtain ⟨⟨t250, t251, t252⟩, A80, H⟩ := H
     try dsimp only at H
     have A8 := Aside0.mk A80
     clear A80
     by_cases c9 : t252 = true
     ·subst c9
      rw [if_pos rfl] at H
      by_cases c10 : x4_1.length < 8796093022208
      ·rw [if_pos c10] at H
       have LMc10 := Aside0.mk c10
       clear c10
       obtain ⟨y254, hy254⟩ : ∃ y_ : List (S31), y_ = (x4_1 ++ [(⟨t250, t251⟩ : S31)]) := ⟨_, rfl⟩
       replace H : (spec_l31Span.l0 k1 y254 (wrap64 (x5_1 + 1)) a0_0 a0_1 a0_2 l0_3) = some (r1, r2, r3) := by first | (rw [hy254]; with_reducible exact H) | (have H2_ := (Option.bind_some _ _).symm.trans H; rw [hy254]; with_reducible exact H2_) | (have H2_ := (Option.bind_some _ _).symm.trans H; with_reducible exact H2_) | with_reducible exact H | (rw [hy254]; exact H) | exact H
       have Ny254 := Aside0.mk hy254
       clear hy254
       have H' := Aside0.mk H
       clear H
       have hnb11 := NB244_245.out
       have hnc11 := NB245_244.out
       obtain ⟨hcz12_0, hcz12_1, hcz12_2, hcz12_3, hfz12_0, hfz12_1, hfz12_2, hfz12_3⟩ := cz4 BK244
       have p249 : 0 ≤ (x5_1 : Int) := of_decide_eq_true (by first | (with_reducible assumption) | assumption)
       have q249 : x5_1 < (l0_3.length : Int) := of_decide_eq_true (by first | (with_reducible assumption) | assumption)
       obtain ⟨ad249, A249_3, c249_3, e249, hx249_0, hx249_1, hx249_2, hx249_3, hl249_3, hi249_3⟩ := at_T25 HR0_3.out x5_1 p249 q249
       cases e249
       replace hx249_0 := (HB.out.cell (World.block_lt_of_cell? w _ hx249_0)).trans hx249_0
       replace hx249_1 := (HB.out.cell (World.block_lt_of_cell? w _ hx249_1)).trans hx249_1
       replace hx249_2 := (HB.out.cell (World.block_lt_of_cell? w _ hx249_2)).trans hx249_2
       replace hx249_3 := (HB.out.cell (World.block_lt_of_cell? w _ hx249_3)).trans hx249_3
       have HR249_3 := Aside0.mk hi249_3
       have HC249_3 := Aside0.mk hl249_3
       clear hi249_3 hl249_3
       replace p249 := eq_true p249
       replace q249 := eq_true q249
       go_wp2_with (first | ((with_reducible refine gate_callee (f := 54) rfl ?_); refine gL 22 Try.func54 #[.agg #[.int .i64 ((rd_T25 l0_3 x5_1).f0), .int .i64 ((rd_T25 l0_3 x5_1).f1), .int .i64 ((rd_T25 l0_3 x5_1).f2), .slice A249_3 ((rd_T25 l0_3 x5_1).f3).length c249_3]] ?_; (with_reducible refine (ih k1 (by have := HK1.out; omega) ((rd_T25 l0_3 x5_1).f0) ((rd_T25 l0_3 x5_1).f1) ((rd_T25 l0_3 x5_1).f2) _ _ ((rd_T25 l0_3 x5_1).f3) t250 t251 true _ ?side1 ?side2 A8.out).mono ?_); (case side1 => repeat (first | exact (Kd.C_below HR249_3.out HB.out) | (with_reducible refine Kd.C_alloc ?_ _) | (with_reducible refine Kd.C_drewN ?_ _) | (with_reducible refine Kd.C_drew ?_))); (case side2 => exact HC249_3.out); rintro e w13 ⟨rfl, hb⟩; refine ⟨_, rfl, ?_⟩; replace HO_4 := Aside0.mk (Kd.R_below (by (with_reducible repeat (first | apply Kd.R_alloc | apply Kd.R_drewN | apply Kd.R_drew)); exact HO_4.out) hb); replace BK244 := bb (bk BK244) hb; replace BK245 := bb (bk BK245) hb; replace HB := hbb (hzs HB) hb; clear hb) | ((with_reducible refine gate_dst (N := 6) rfl ?_); refine bE 6 #[.int .i64 0, .int .i64 0] 31 ?_; intro gb253 hg w14 hbox hb; have BK253 := Aside0.mk (hbox); have GE253 := gw hg (hzs HB); have GW253 := GE253; have NB244_253 := nl hg (bk BK244); have NB253_244 := ng hg (bk BK244); have NB245_253 := nl hg (bk BK245); have NB253_245 := ng hg (bk BK245); replace HO_4 := Aside0.mk (Kd.R_below (Kd.R_elderB (by (with_reducible repeat (first | apply Kd.R_alloc | apply Kd.R_drewN | apply Kd.R_drew)); exact HO_4.out) gb253 (Nat.le_of_eq hg.symm)) hb); replace BK244 := bb (bk BK244) hb; replace BK245 := bb (bk BK245) hb; replace HB := hbb (hzs HB) hb; clear hb hbox hg; have hnb15 := NB253_244.out; have hnc15 := NB244_253.out; have hnb16 := NB253_245.out; have hnc16 := NB245_253.out; obtain ⟨hcz17_0, hcz17_1, hfz17_0, hfz17_1⟩ := cz2 BK253) | ((with_reducible refine gate_builtin (b := .append) (xs := #[.tmp 28, .tmp 30]) rfl ?_); at_builtin; refine Kd.R_append k31 (w0 := w) w.heap.size rfl (.tmp 28) (.tmp 30) 84 31 (.agg #[(.int .i64 0), (.int .i64 0)]) 16 rfl Try.underlying84 info31 rfl (by decide) (by omega) u4 x4_1 (⟨t250, t251⟩ : S31) [.int .i64 t250, .int .i64 t251] (fun k_ => k_ ≠ gb245 ∧ k_ ≠ gb253) (fun _ => False) rfl (by first | (go_simp; done) | (go_simp; rfl)) ?aP (fun _ hk => hk.elim) ?aF ?aO ?aB ?aS ?aL ?_; (case aP => exact k31_mkM _ _ _ (⟨t250, t251⟩ : S31)); (case aB => exact (hzs HB)); (case aF => exact (fun k_ hk => ⟨Kd.freshB (g := gb245) (o := .cells #[.int .i64 x246000_1, .int .i64 x246001_1] 31 (0, 0)) (bk1 BK245 NB245_253) k_ hk, Kd.freshB (g := gb253) (o := .cells #[.int .i64 t250, .int .i64 t251] 31 (0, 0)) (bkp BK253) k_ hk⟩)); (case aO => exact (by (with_reducible repeat (first | apply Kd.R_alloc | apply Kd.R_drewN | apply Kd.R_drew)); exact Kd.R_mono (Kd.R_far (p := ⟨gb253, 1, none⟩) (Kd.R_far (p := ⟨gb253, 0, none⟩) (Kd.R_mono HO_4.out (fun k_ hk => (⟨hk, hk.2⟩ : _ ∧ k_ ≠ gb253))) (fun _ hk => hk.2) (.int .i64 t250)) (fun _ hk => hk.2) (.int .i64 t251)) (fun _ hk => ⟨hk.1.1, hk.1.2⟩))); (case aS => exact (below_size (hzs HB))); (case aL => have := LMc10.out; omega); intro v255 w18 ho hb hg hat; rw [← Ny254.out] at ho; have n0_ := Aside0.mk (blk_grown (g := gb244) (o := .cells #[.int .i64 a0_0, .int .i64 a0_1, .int .i64 a0_2, .slice (some ad249) l0_3.length c0_3] 25 (0, 0)) (bk1 BK244 NB244_253) hg (Kd.R_ne HO_4.out BK244.out (by decide))); have n1_ := Aside0.mk (blk_grown (g := gb245) (o := .cells #[.int .i64 x246000_1, .int .i64 x246001_1] 31 (0, 0)) (bk1 BK245 NB245_253) hg (Kd.R_away HO_4.out (fun _ hk => hk.1))); have n2_ := Aside0.mk (blk_grown (g := gb253) (o := .cells #[.int .i64 t250, .int .i64 t251] 31 (0, 0)) (bkp BK253) hg (Kd.R_away HO_4.out (fun _ hk => hk.2))); have n3_ := Aside0.mk (hb); have n4_ := Aside0.mk (ho); clear BK244; clear BK245; clear BK253; clear HB; clear HO_4; have BK244 := n0_; have BK245 := n1_; have BK253 := n2_; have HB := n3_; have HO256 := n4_; clear n0_ n1_ n2_ n3_ n4_; clear ho hb hg hat))
       go_roundg k1
       case measure => have := HK1.out; omega
       case rel => exact ⟨(y254), (wrap64 (x5_1 + 1)), (x246000_1), (x246001_1), (by first | rfl | (simp; done) | (simp [*]; done)), H', ⟨by have := HK1.out; omega⟩, ⟨by (with_reducible repeat (first | apply Kd.R_alloc | apply Kd.R_drewN | apply Kd.R_drew)); exact Kd.R_mono HO256.out (fun _ hk => hk.1)⟩, ⟨bk BK244⟩, ⟨bk BK245⟩, ⟨hzs HB⟩⟩
      ·rw [if_neg c10] at H
       exact absurd H (by simp)
     ·replace c9 := Bool.eq_false_iff.mpr c9
      subst c9
      rw [if_neg (show ¬ (false = true) by decide)] at H
      simp only [Option.some.injEq, Prod.mk.injEq] at H
      obtain ⟨rfl, rfl, rfl⟩ := H
      have hnb19 := NB244_245.out
      have hnc19 := NB245_244.out
      obtain ⟨hcz20_0, hcz20_1, hcz20_2, hcz20_3, hfz20_0, hfz20_1, hfz20_2, hfz20_3⟩ := cz4 BK244
      have p249 : 0 ≤ (x5_1 : Int) := of_decide_eq_true (by first | (with_reducible assumption) | assumption)
      have q249 : x5_1 < (l0_3.length : Int) := of_decide_eq_true (by first | (with_reducible assumption) | assumption)
      obtain ⟨ad249, A249_3, c249_3, e249, hx249_0, hx249_1, hx249_2, hx249_3, hl249_3, hi249_3⟩ := at_T25 HR0_3.out x5_1 p249 q249
      cases e249
      replace hx249_0 := (HB.out.cell (World.block_lt_of_cell? w _ hx249_0)).trans hx249_0
      replace hx249_1 := (HB.out.cell (World.block_lt_of_cell? w _ hx249_1)).trans hx249_1
      replace hx249_2 := (HB.out.cell (World.block_lt_of_cell? w _ hx249_2)).trans hx249_2
      replace hx249_3 := (HB.out.cell (World.block_lt_of_cell? w _ hx249_3)).trans hx249_3
      have HR249_3 := Aside0.mk hi249_3
      have HC249_3 := Aside0.mk hl249_3
      clear hi249_3 hl249_3
      replace p249 := eq_true p249
      replace q249 := eq_true q249
      go_wp2_with (first | ((with_reducible refine gate_callee (f := 54) rfl ?_); refine gL 22 Try.func54 #[.agg #[.int .i64 ((rd_T25 l0_3 x5_1).f0), .int .i64 ((rd_T25 l0_3 x5_1).f1), .int .i64 ((rd_T25 l0_3 x5_1).f2), .slice A249_3 ((rd_T25 l0_3 x5_1).f3).length c249_3]] ?_; (with_reducible refine (ih k1 (by have := HK1.out; omega) ((rd_T25 l0_3 x5_1).f0) ((rd_T25 l0_3 x5_1).f1) ((rd_T25 l0_3 x5_1).f2) _ _ ((rd_T25 l0_3 x5_1).f3) t250 t251 false _ ?side1 ?side2 A8.out).mono ?_); (case side1 => repeat (first | exact (Kd.C_below HR249_3.out HB.out) | (with_reducible refine Kd.C_alloc ?_ _) | (with_reducible refine Kd.C_drewN ?_ _) | (with_reducible refine Kd.C_drew ?_))); (case side2 => exact HC249_3.out); rintro e w21 ⟨rfl, hb⟩; refine ⟨_, rfl, ?_⟩; replace HO_4 := Aside0.mk (Kd.R_below (by (with_reducible repeat (first | apply Kd.R_alloc | apply Kd.R_drewN | apply Kd.R_drew)); exact HO_4.out) hb); replace BK244 := bb (bk BK244) hb; replace BK245 := bb (bk BK245) hb; replace HB := hbb (hzs HB) hb; clear hb) | ((with_reducible refine gate_dst (N := 6) rfl ?_); refine bE 6 #[.int .i64 0, .int .i64 0] 31 ?_; intro gb253 hg w22 hbox hb; have BK253 := Aside0.mk (hbox); have GE253 := gw hg (hzs HB); have GW253 := GE253; have NB244_253 := nl hg (bk BK244); have NB253_244 := ng hg (bk BK244); have NB245_253 := nl hg (bk BK245); have NB253_245 := ng hg (bk BK245); replace HO_4 := Aside0.mk (Kd.R_below (Kd.R_elderB (by (with_reducible repeat (first | apply Kd.R_alloc | apply Kd.R_drewN | apply Kd.R_drew)); exact HO_4.out) gb253 (Nat.le_of_eq hg.symm)) hb); replace BK244 := bb (bk BK244) hb; replace BK245 := bb (bk BK245) hb; replace HB := hbb (hzs HB) hb; clear hb hbox hg; have hnb23 := NB253_244.out; have hnc23 := NB244_253.out; have hnb24 := NB253_245.out; have hnc24 := NB245_253.out; obtain ⟨hcz25_0, hcz25_1, hfz25_0, hfz25_1⟩ := cz2 BK253; obtain ⟨hcz26_0, hcz26_1, hfz26_0, hfz26_1⟩ := cz2 BK245))
      refine bodyPost_ret (results_ct rfl _ _ gb245 31 #[.int .i64 0, .int .i64 0] (0, 0) _ rfl (bkp BK245) Try.underlying31 rfl (by kernel_rfl)) rfl ?_
      exact ⟨by first | rfl | (simp [errW_none, errW_some] <;> rfl) | (simp [*, errW_none, errW_some] <;> rfl), hzs HB⟩
    ·rw [if_neg c7] at H
     exact absurd H (by simp)
   ·rw [if_neg c6] at H
    have c6b0 : decide (x5_1 < (l0_3.length : Int)) = false := decide_eq_false c6
    clear c6
    by_cases c27 : a0_0 = 1
    ·rw [if_pos c27] at H
     have c27b0 : (a0_0 == 1) = true := beq_iff_eq.mpr c27
     have c27b1 : (a0_0 != 1) = false := bne_eq_false_iff_eq.mpr c27
     clear c27
     replace H := Option.bind_eq_some_iff.mp H
     obtain ⟨⟨t257, t258, t259⟩, A280, H⟩ := H
     try dsimp only at H
     have A28 := Aside0.mk A280
     clear A280
     simp only [Option.some.injEq, Prod.mk.injEq] at H
     obtain ⟨rfl, rfl, rfl⟩ := H
     have hnb29 := NB244_245.out
     have hnc29 := NB245_244.out
     obtain ⟨hcz30_0, hcz30_1, hcz30_2, hcz30_3, hfz30_0, hfz30_1, hfz30_2, hfz30_3⟩ := cz4 BK244
     go_wp2_with (first | ((with_reducible refine gate_callee (f := 74) rfl ?_); refine gL 40 Try.func74 #[.int .i64 a0_1, .int .i64 a0_2] ?_; (with_reducible refine (spec_SpanOf.calls a0_1 a0_2 t257 t258 t259 _ A28.out).mono ?_); rintro e w31 ⟨rfl, hb⟩; refine ⟨_, rfl, ?_⟩; replace HO_4 := Aside0.mk (Kd.R_below (by (with_reducible repeat (first | apply Kd.R_alloc | apply Kd.R_drewN | apply Kd.R_drew)); exact HO_4.out) hb); replace BK244 := bb (bk BK244) hb; replace BK245 := bb (bk BK245) hb; replace HB := hbb (hzs HB) hb; clear hb; obtain ⟨hcz32_0, hcz32_1, hfz32_0, hfz32_1⟩ := cz2 BK245))
     refine bodyPost_ret (results_ct rfl _ _ gb245 31 #[.int .i64 t257, .int .i64 t258] (0, 0) _ rfl (bkp BK245) Try.underlying31 rfl (by kernel_rfl)) rfl ?_
     exact ⟨by first | rfl | (simp [errW_none, errW_some] <;> rfl) | (simp [*, errW_none, errW_some] <;> rfl), hzs HB⟩
    ·rw [if_neg c27] at H
     have c27b0 : (a0_0 == 1) = false := beq_eq_false_iff_ne.mpr c27
     have c27b1 : (a0_0 != 1) = true := bne_iff_ne.mpr c27
     by_cases c33 : a0_0 = 2
     ·rw [if_pos c33] at H
      have c33b0 : (a0_0 == 2) = true := beq_iff_eq.mpr c33
      have c33b1 : (a0_0 != 2) = false := bne_eq_false_iff_eq.mpr c33
      clear c33
      by_cases c34 : 0 < (x4_1.length : Int)
      ·rw [if_pos c34] at H
       have c34b0 : decide (0 < (x4_1.length : Int)) = true := decide_eq_true c34
       have c34b1 : decide (0 < x4_1.length) = true := decide_eq_true (by omega)
       clear c34
       replace H := Option.bind_eq_some_iff.mp H
       obtain ⟨⟨t261, t262⟩, A350, H⟩ := H
       try dsimp only at H
       have A35 := Aside0.mk A350
       clear A350
       simp only [Option.some.injEq, Prod.mk.injEq] at H
       obtain ⟨rfl, rfl, rfl⟩ := H
       have hnb36 := NB244_245.out
       have hnc36 := NB245_244.out
       obtain ⟨hcz37_0, hcz37_1, hcz37_2, hcz37_3, hfz37_0, hfz37_1, hfz37_2, hfz37_3⟩ := cz4 BK244
       obtain ⟨Ao38, co38, eo38⟩ := Kd.R_slice HO_4.out
       subst eo38
       have p260 : 0 ≤ (0 : Int) := (by omega)
       have q260 : 0 < (x4_1.length : Int) := of_decide_eq_true (by first | (with_reducible assumption) | assumption)
       obtain ⟨ad260, e260, hx260_0, hx260_1⟩ := at_T31 (Kd.R_reads' HO_4.out).2.2 0 p260 q260
       cases e260
       have qi260 : (0 < x4_1.length) = True := eq_true (by omega)
       (try rw [show ((0 : Int)).toNat = 0 from rfl] at hx260_0)
       (try rw [show 0 * 2 = 0 from rfl] at hx260_0)
       (try rw [Addr.add_zero'] at hx260_0)
       (try rw [show ((0 : Int)).toNat = 0 from rfl] at hx260_1)
       (try rw [show 0 * 2 = 0 from rfl] at hx260_1)
       (try rw [Addr.add_zero'] at hx260_1)
       replace p260 := eq_true p260
       replace q260 := eq_true q260
       go_wp2_with (first | ((with_reducible refine gate_callee (f := 75) rfl ?_); refine gL 48 Try.func75 #[.agg #[.int .i64 ((rd_T31 x4_1 0).f0), .int .i64 ((rd_T31 x4_1 0).f1)]] ?_; (with_reducible refine (spec_SpanNeg.calls ((rd_T31 x4_1 0).f0) ((rd_T31 x4_1 0).f1) t261 t262 _ A35.out).mono ?_); rintro e w39 ⟨rfl, hb⟩; refine ⟨_, rfl, ?_⟩; replace HO_4 := Aside0.mk (Kd.R_below (by (with_reducible repeat (first | apply Kd.R_alloc | apply Kd.R_drewN | apply Kd.R_drew)); exact HO_4.out) hb); replace BK244 := bb (bk BK244) hb; replace BK245 := bb (bk BK245) hb; replace HB := hbb (hzs HB) hb; clear hb; obtain ⟨hcz40_0, hcz40_1, hfz40_0, hfz40_1⟩ := cz2 BK245))
       refine bodyPost_ret (results_ct rfl _ _ gb245 31 #[.int .i64 t261, .int .i64 t262] (0, 0) _ rfl (bkp BK245) Try.underlying31 rfl (by kernel_rfl)) rfl ?_
       exact ⟨by first | rfl | (simp [errW_none, errW_some] <;> rfl) | (simp [*, errW_none, errW_some] <;> rfl), hzs HB⟩
      ·rw [if_neg c34] at H
       exact absurd H (by simp)
     ·rw [if_neg c33] at H
      have c33b0 : (a0_0 == 2) = false := beq_eq_false_iff_ne.mpr c33
      have c33b1 : (a0_0 != 2) = true := bne_iff_ne.mpr c33
      by_cases c41 : a0_0 = 3
      ·rw [if_pos c41] at H
       have c41b0 : (a0_0 == 3) = true := beq_iff_eq.mpr c41
       have c41b1 : (a0_0 != 3) = false := bne_eq_false_iff_eq.mpr c41
       clear c41
       by_cases c42 : 0 < (x4_1.length : Int)
       ·rw [if_pos c42] at H
        have c42b0 : decide (0 < (x4_1.length : Int)) = true := decide_eq_true c42
        have c42b1 : decide (0 < x4_1.length) = true := decide_eq_true (by omega)
        clear c42
        replace H := Option.bind_eq_some_iff.mp H
        obtain ⟨⟨t264, t265, t266⟩, A430, H⟩ := H
        try dsimp only at H
        have A43 := Aside0.mk A430
        clear A430
        simp only [Option.some.injEq, Prod.mk.injEq] at H
        obtain ⟨rfl, rfl, rfl⟩ := H
        have hnb44 := NB244_245.out
        have hnc44 := NB245_244.out
        obtain ⟨hcz45_0, hcz45_1, hcz45_2, hcz45_3, hfz45_0, hfz45_1, hfz45_2, hfz45_3⟩ := cz4 BK244
        obtain ⟨Ao46, co46, eo46⟩ := Kd.R_slice HO_4.out
        subst eo46
        have p263 : 0 ≤ (0 : Int) := (by omega)
        have q263 : 0 < (x4_1.length : Int) := of_decide_eq_true (by first | (with_reducible assumption) | assumption)
        obtain ⟨ad263, e263, hx263_0, hx263_1⟩ := at_T31 (Kd.R_reads' HO_4.out).2.2 0 p263 q263
        cases e263
        have qi263 : (0 < x4_1.length) = True := eq_true (by omega)
        (try rw [show ((0 : Int)).toNat = 0 from rfl] at hx263_0)
        (try rw [show 0 * 2 = 0 from rfl] at hx263_0)
        (try rw [Addr.add_zero'] at hx263_0)
        (try rw [show ((0 : Int)).toNat = 0 from rfl] at hx263_1)
        (try rw [show 0 * 2 = 0 from rfl] at hx263_1)
        (try rw [Addr.add_zero'] at hx263_1)
        replace p263 := eq_true p263
        replace q263 := eq_true q263
        go_wp2_with (first | ((with_reducible refine gate_callee (f := 76) rfl ?_); refine gL 54 Try.func76 #[.agg #[.int .i64 ((rd_T31 x4_1 0).f0), .int .i64 ((rd_T31 x4_1 0).f1)]] ?_; (with_reducible refine (spec_SpanRoot.calls k1 ((rd_T31 x4_1 0).f0) ((rd_T31 x4_1 0).f1) t264 t265 t266 _ A43.out).mono ?_); rintro e w47 ⟨rfl, hb⟩; refine ⟨_, rfl, ?_⟩; replace HO_4 := Aside0.mk (Kd.R_below (by (with_reducible repeat (first | apply Kd.R_alloc | apply Kd.R_drewN | apply Kd.R_drew)); exact HO_4.out) hb); replace BK244 := bb (bk BK244) hb; replace BK245 := bb (bk BK245) hb; replace HB := hbb (hzs HB) hb; clear hb; obtain ⟨hcz48_0, hcz48_1, hfz48_0, hfz48_1⟩ := cz2 BK245))
        refine bodyPost_ret (results_ct rfl _ _ gb245 31 #[.int .i64 t264, .int .i64 t265] (0, 0) _ rfl (bkp BK245) Try.underlying31 rfl (by kernel_rfl)) rfl ?_
        exact ⟨by first | rfl | (simp [errW_none, errW_some] <;> rfl) | (simp [*, errW_none, errW_some] <;> rfl), hzs HB⟩
       ·rw [if_neg c42] at H
        exact absurd H (by simp)
      ·rw [if_neg c41] at H
       have c41b0 : (a0_0 == 3) = false := beq_eq_false_iff_ne.mpr c41
       have c41b1 : (a0_0 != 3) = true := bne_iff_ne.mpr c41
       by_cases c49 : a0_0 = 4
       ·rw [if_pos c49] at H
        have c49b0 : (a0_0 == 4) = true := beq_iff_eq.mpr c49
        have c49b1 : (a0_0 != 4) = false := bne_eq_false_iff_eq.mpr c49
        clear c49
        replace H := Option.bind_eq_some_iff.mp H
        obtain ⟨⟨t267, t268, t269⟩, A500, H⟩ := H
        try dsimp only at H
        have A50 := Aside0.mk A500
        clear A500
        simp only [Option.some.injEq, Prod.mk.injEq] at H
        obtain ⟨rfl, rfl, rfl⟩ := H
        have hnb51 := NB244_245.out
        have hnc51 := NB245_244.out
        obtain ⟨hcz52_0, hcz52_1, hcz52_2, hcz52_3, hfz52_0, hfz52_1, hfz52_2, hfz52_3⟩ := cz4 BK244
        go_wp2_with (first | ((with_reducible refine gate_callee (f := 77) rfl ?_); refine gL 61 Try.func77 #[.int .i64 a0_1] ?_; (with_reducible refine (spec_SineOf.calls k1 a0_1 t267 t268 t269 _ A50.out).mono ?_); rintro e w53 ⟨rfl, hb⟩; refine ⟨_, rfl, ?_⟩; replace HO_4 := Aside0.mk (Kd.R_below (by (with_reducible repeat (first | apply Kd.R_alloc | apply Kd.R_drewN | apply Kd.R_drew)); exact HO_4.out) hb); replace BK244 := bb (bk BK244) hb; replace BK245 := bb (bk BK245) hb; replace HB := hbb (hzs HB) hb; clear hb; obtain ⟨hcz54_0, hcz54_1, hfz54_0, hfz54_1⟩ := cz2 BK245))
        refine bodyPost_ret (results_ct rfl _ _ gb245 31 #[.int .i64 t267, .int .i64 t268] (0, 0) _ rfl (bkp BK245) Try.underlying31 rfl (by kernel_rfl)) rfl ?_
        exact ⟨by first | rfl | (simp [errW_none, errW_some] <;> rfl) | (simp [*, errW_none, errW_some] <;> rfl), hzs HB⟩
       ·rw [if_neg c49] at H
        have c49b0 : (a0_0 == 4) = false := beq_eq_false_iff_ne.mpr c49
        have c49b1 : (a0_0 != 4) = true := bne_iff_ne.mpr c49
        by_cases c55 : a0_0 = 5
        ·rw [if_pos c55] at H
         have c55b0 : (a0_0 == 5) = true := beq_iff_eq.mpr c55
         have c55b1 : (a0_0 != 5) = false := bne_eq_false_iff_eq.mpr c55
         clear c55
         by_cases c56 : 0 < (x4_1.length : Int)
         ·rw [if_pos c56] at H
          have c56b0 : decide (0 < (x4_1.length : Int)) = true := decide_eq_true c56
          have c56b1 : decide (0 < x4_1.length) = true := decide_eq_true (by omega)
          clear c56
          by_cases c57 : 1 < (x4_1.length : Int)
          ·rw [if_pos c57] at H
           have c57b0 : decide (1 < (x4_1.length : Int)) = true := decide_eq_true c57
           have c57b1 : decide (1 < x4_1.length) = true := decide_eq_true (by omega)
           clear c57
           replace H := Option.bind_eq_some_iff.mp H
           obtain ⟨⟨t272, t273, t274⟩, A580, H⟩ := H
           try dsimp only at H
           have A58 := Aside0.mk A580
           clear A580
           simp only [Option.some.injEq, Prod.mk.injEq] at H
           obtain ⟨rfl, rfl, rfl⟩ := H
           have hnb59 := NB244_245.out
           have hnc59 := NB245_244.out
           obtain ⟨hcz60_0, hcz60_1, hcz60_2, hcz60_3, hfz60_0, hfz60_1, hfz60_2, hfz60_3⟩ := cz4 BK244
           try go_wp2
           replace HO_4 := Aside0.mk (Kd.R_drew HO_4.out)
           replace BK244 := Aside0.mk (blk_drew BK244.out)
           replace BK245 := Aside0.mk (blk_drew BK245.out)
           replace HB := Aside0.mk (below_drew1 HB.out)
           obtain ⟨Ao62, co62, eo62⟩ := Kd.R_slice HO_4.out
           (first | subst eo62 | (injection eo62 with f1_ f2_ f3_; have f4_ := f1_.symm; have f5_ := f3_.symm; clear f1_ f2_ f3_; subst f4_; subst f5_))
           have p270 : 0 ≤ (0 : Int) := (by omega)
           have q270 : 0 < (x4_1.length : Int) := of_decide_eq_true (by first | (with_reducible assumption) | assumption)
           obtain ⟨ad270, e270, hx270_0, hx270_1⟩ := at_T31 (Kd.R_reads' HO_4.out).2.2 0 p270 q270
           cases e270
           have qi270 : (0 < x4_1.length) = True := eq_true (by omega)
           (try rw [show ((0 : Int)).toNat = 0 from rfl] at hx270_0)
           (try rw [show 0 * 2 = 0 from rfl] at hx270_0)
           (try rw [Addr.add_zero'] at hx270_0)
           (try rw [show ((0 : Int)).toNat = 0 from rfl] at hx270_1)
           (try rw [show 0 * 2 = 0 from rfl] at hx270_1)
           (try rw [Addr.add_zero'] at hx270_1)
           replace p270 := eq_true p270
           replace q270 := eq_true q270
           have p271 : 0 ≤ (1 : Int) := (by omega)
           have q271 : 1 < (x4_1.length : Int) := of_decide_eq_true (by first | (with_reducible assumption) | assumption)
           obtain ⟨ad271, e271, hx271_0, hx271_1⟩ := at_T31 (Kd.R_reads' HO_4.out).2.2 1 p271 q271
           obtain rfl : ad270 = ad271 := (by injection e271)
           (try simp only [show (1 : Int).toNat = 1 from rfl, Nat.reduceMul, Nat.reduceEqDiff, Go.Addr.add, ↓reduceIte] at hx271_0)
           (try simp only [show (1 : Int).toNat = 1 from rfl, Nat.reduceMul, Nat.reduceEqDiff, Go.Addr.add, ↓reduceIte] at hx271_1)
           have qi271 : (1 < x4_1.length) = True := eq_true (by omega)
           (try rw [show ((1 : Int)).toNat = 1 from rfl] at hx271_0)
           (try rw [show 1 * 2 = 2 from rfl] at hx271_0)
           (try rw [show ((1 : Int)).toNat = 1 from rfl] at hx271_1)
           (try rw [show 1 * 2 = 2 from rfl] at hx271_1)
           replace p271 := eq_true p271
           replace q271 := eq_true q271
           refine start_ (n := 11) (S := fun w' => w'.cell? ad270 = some (.int .i64 ((rd_T31 x4_1 0).f0)) ∧ w'.cell? ⟨ad270.block, ad270.off + 1, none⟩ = some (.int .i64 ((rd_T31 x4_1 0).f1)) ∧ w'.cell? ⟨ad270.block, ad270.off + 2, none⟩ = some (.int .i64 ((rd_T31 x4_1 1).f0)) ∧ w'.cell? ⟨ad270.block, ad270.off + 2 + 1, none⟩ = some (.int .i64 ((rd_T31 x4_1 1).f1))) (ds := []) #[false, false, false, false, false, false, false, false, false, false, false] (by kernel_rfl) rfl rfl ⟨hx270_0, hx270_1, hx271_0, hx271_1⟩ (fun hHeld => ?_); refine with_tabW spec_l31Span.tab19 spec_l31Span.bits19 (fun HT_ HW_ => ?_)
           generalize wr.drew = w61 at HO_4 BK244 BK245 HB hx270_0 hx270_1 hx271_0 hx271_1 hHeld ⊢
           refine pU 0 66 #[true, false, false, false, false, false, false, false, false, false, false] HT_ ?_
           refine pU 1 67 #[true, true, false, false, false, false, false, false, false, false, false] HT_ ?_
           refine pU 3 69 #[true, true, false, true, false, false, false, false, false, false, false] HT_ ?_
           refine pU 4 70 #[true, true, false, true, true, false, false, false, false, false, false] HT_ ?_
           refine take_ (i := 2) (N := some 68) (v := ?_) (a' := ?_) #[true, true, true, true, true, false, false, false, false, false, false] rfl rfl (take_ofW HT_.out HW_.out (by kernel_rfl)) (fun _ _ _ h => h) (Or.inl ⟨by rfl, ?_⟩) hHeld ?_ ?_
           rotate_left
           ·rintro w' ⟨s0, s1, s2, s3⟩
            go_simp
            with_reducible rfl
           rotate_left
           ·simp only [Act.put, List.setIfInBounds_toArray, List.set_cons_zero, List.set_cons_succ, i64_w, i32_w]
            rfl
           refine take_ (i := 5) (N := some 71) (v := ?_) (a' := ?_) #[true, true, true, true, true, true, false, false, false, false, false] rfl rfl (take_ofW HT_.out HW_.out (by kernel_rfl)) (fun _ _ _ h => h) (Or.inl ⟨by rfl, ?_⟩) hHeld ?_ ?_
           rotate_left
           ·rintro w' ⟨s0, s1, s2, s3⟩
            go_simp
            with_reducible rfl
           rotate_left
           ·simp only [Act.put, List.setIfInBounds_toArray, List.set_cons_zero, List.set_cons_succ, i64_w, i32_w]
            rfl
           refine oN 6 72 #[true, true, true, true, true, true, true, false, false, false, false] HT_ (fun K hK => ?_)
           refine gS Try.func78 #[.agg #[.int .i64 ((rd_T31 x4_1 0).f0), .int .i64 ((rd_T31 x4_1 0).f1)], .agg #[.int .i64 ((rd_T31 x4_1 1).f0), .int .i64 ((rd_T31 x4_1 1).f1)]] ?_
           with_reducible refine (spec_SpanAdd.calls ((rd_T31 x4_1 0).f0) ((rd_T31 x4_1 0).f1) ((rd_T31 x4_1 1).f0) ((rd_T31 x4_1 1).f1) t272 t273 t274 _ A58.out).mono ?_
           rintro e w63 ⟨rfl, hb⟩
           have HS0_ := (hb.cell (World.block_lt_of_cell? _ _ (hHeld.1))).trans (hHeld.1)
           have HS1_ := (hb.cell (World.block_lt_of_cell? _ _ (hHeld.2.1))).trans (hHeld.2.1)
           have HS2_ := (hb.cell (World.block_lt_of_cell? _ _ (hHeld.2.2.1))).trans (hHeld.2.2.1)
           have HS3_ := (hb.cell (World.block_lt_of_cell? _ _ (hHeld.2.2.2))).trans (hHeld.2.2.2)
           refine ⟨_, rfl, ?_⟩
           replace HO_4 := Aside0.mk (Kd.R_below (by (with_reducible repeat (first | apply Kd.R_alloc | apply Kd.R_drewN | apply Kd.R_drew)); exact HO_4.out) hb)
           replace BK244 := bb (bk BK244) hb
           replace BK245 := bb (bk BK245) hb
           replace HB := hbb (hzs HB) hb
           clear hb
           refine hK.out _ _ ⟨HS0_, HS1_, HS2_, HS3_⟩ (fun hHeld => ?_)
           clear hK K
           refine nP ?_
           refine pU 7 73 #[true, true, true, true, true, true, true, true, false, false, false] HT_ ?_
           refine pU 8 74 #[true, true, true, true, true, true, true, true, true, false, false] HT_ ?_
           refine one_ (i := 9) (N := none) #[true, true, true, true, true, true, true, true, true, true, false] rfl rfl (one_of HT_.out (by kernel_rfl)) (by decide) (fun K hK => ?_)
           have hs64 : w63.cell? ⟨gb245, 0, none⟩ = some (.int .i64 x246000_1) := (blk_cell BK245.out 0).trans rfl
           have hfs64 := blk_frozen BK245.out 0
           have hns64_0 := NB244_245.out
           have hms64_0 := NB245_244.out
           have hs65 : w63.cell? ⟨gb245, 1, none⟩ = some (.int .i64 x246001_1) := (blk_cell BK245.out 1).trans rfl
           have hfs65 := blk_frozen BK245.out 1
           have hns65_0 := NB244_245.out
           have hms65_0 := NB245_244.out
           refine skip_ (w1 := ?_) (by rfl) rfl ?_ ?_
           rotate_left
           ·go_simp
            rfl
           refine hK.out _ _ ⟨((cell_far (p := ⟨gb245, _, none⟩) (by first | exact Kd.own_blk (Kd.R_away HO_4.out (fun _ hk => hk)) | (rw [add_block]; exact Kd.own_blk (Kd.R_away HO_4.out (fun _ hk => hk))) | (show (Addr.add _ _).block ≠ _; rw [add_block]; exact Kd.own_blk (Kd.R_away HO_4.out (fun _ hk => hk))) | (dsimp only; exact Kd.own_blk (Kd.R_away HO_4.out (fun _ hk => hk)))) _).trans (((cell_far (p := ⟨gb245, _, none⟩) (by first | exact Kd.own_blk (Kd.R_away HO_4.out (fun _ hk => hk)) | (rw [add_block]; exact Kd.own_blk (Kd.R_away HO_4.out (fun _ hk => hk))) | (show (Addr.add _ _).block ≠ _; rw [add_block]; exact Kd.own_blk (Kd.R_away HO_4.out (fun _ hk => hk))) | (dsimp only; exact Kd.own_blk (Kd.R_away HO_4.out (fun _ hk => hk)))) _).trans (hHeld.1)))), ((cell_far (p := ⟨gb245, _, none⟩) (by first | exact Kd.own_blk (Kd.R_away HO_4.out (fun _ hk => hk)) | (rw [add_block]; exact Kd.own_blk (Kd.R_away HO_4.out (fun _ hk => hk))) | (show (Addr.add _ _).block ≠ _; rw [add_block]; exact Kd.own_blk (Kd.R_away HO_4.out (fun _ hk => hk))) | (dsimp only; exact Kd.own_blk (Kd.R_away HO_4.out (fun _ hk => hk)))) _).trans (((cell_far (p := ⟨gb245, _, none⟩) (by first | exact Kd.own_blk (Kd.R_away HO_4.out (fun _ hk => hk)) | (rw [add_block]; exact Kd.own_blk (Kd.R_away HO_4.out (fun _ hk => hk))) | (show (Addr.add _ _).block ≠ _; rw [add_block]; exact Kd.own_blk (Kd.R_away HO_4.out (fun _ hk => hk))) | (dsimp only; exact Kd.own_blk (Kd.R_away HO_4.out (fun _ hk => hk)))) _).trans (hHeld.2.1)))), ((cell_far (p := ⟨gb245, _, none⟩) (by first | exact Kd.own_blk (Kd.R_away HO_4.out (fun _ hk => hk)) | (rw [add_block]; exact Kd.own_blk (Kd.R_away HO_4.out (fun _ hk => hk))) | (show (Addr.add _ _).block ≠ _; rw [add_block]; exact Kd.own_blk (Kd.R_away HO_4.out (fun _ hk => hk))) | (dsimp only; exact Kd.own_blk (Kd.R_away HO_4.out (fun _ hk => hk)))) _).trans (((cell_far (p := ⟨gb245, _, none⟩) (by first | exact Kd.own_blk (Kd.R_away HO_4.out (fun _ hk => hk)) | (rw [add_block]; exact Kd.own_blk (Kd.R_away HO_4.out (fun _ hk => hk))) | (show (Addr.add _ _).block ≠ _; rw [add_block]; exact Kd.own_blk (Kd.R_away HO_4.out (fun _ hk => hk))) | (dsimp only; exact Kd.own_blk (Kd.R_away HO_4.out (fun _ hk => hk)))) _).trans (hHeld.2.2.1)))), ((cell_far (p := ⟨gb245, _, none⟩) (by first | exact Kd.own_blk (Kd.R_away HO_4.out (fun _ hk => hk)) | (rw [add_block]; exact Kd.own_blk (Kd.R_away HO_4.out (fun _ hk => hk))) | (show (Addr.add _ _).block ≠ _; rw [add_block]; exact Kd.own_blk (Kd.R_away HO_4.out (fun _ hk => hk))) | (dsimp only; exact Kd.own_blk (Kd.R_away HO_4.out (fun _ hk => hk)))) _).trans (((cell_far (p := ⟨gb245, _, none⟩) (by first | exact Kd.own_blk (Kd.R_away HO_4.out (fun _ hk => hk)) | (rw [add_block]; exact Kd.own_blk (Kd.R_away HO_4.out (fun _ hk => hk))) | (show (Addr.add _ _).block ≠ _; rw [add_block]; exact Kd.own_blk (Kd.R_away HO_4.out (fun _ hk => hk))) | (dsimp only; exact Kd.own_blk (Kd.R_away HO_4.out (fun _ hk => hk)))) _).trans (hHeld.2.2.2))))⟩ (fun hHeld => ?_)
           clear hK K
           refine pU 10 3 #[true, true, true, true, true, true, true, true, true, true, true] HT_ ?_
           refine done_ (done_of HT_.out (by kernel_rfl)) ?_
           try go_wp2
           refine bodyPost_ret (results_ct rfl _ _ gb245 31 #[.int .i64 t272, .int .i64 t273] (0, 0) _ rfl (bkp BK245) Try.underlying31 rfl (by kernel_rfl)) rfl ?_
           exact ⟨by first | rfl | (simp [errW_none, errW_some] <;> rfl) | (simp [*, errW_none, errW_some] <;> rfl), hzs HB⟩
          ·rw [if_neg c57] at H
           exact absurd H (by simp)
         ·rw [if_neg c56] at H
          exact absurd H (by simp)
        ·rw [if_neg c55] at H
         have c55b0 : (a0_0 == 5) = false := beq_eq_false_iff_ne.mpr c55
         have c55b1 : (a0_0 != 5) = true := bne_iff_ne.mpr c55
         by_cases c66 : a0_0 = 6
         ·rw [if_pos c66] at H
          have c66b0 : (a0_0 == 6) = true := beq_iff_eq.mpr c66
          have c66b1 : (a0_0 != 6) = false := bne_eq_false_iff_eq.mpr c66
          clear c66
          by_cases c67 : 0 < (x4_1.length : Int)
          ·rw [if_pos c67] at H
           have c67b0 : decide (0 < (x4_1.length : Int)) = true := decide_eq_true c67
           have c67b1 : decide (0 < x4_1.length) = true := decide_eq_true (by omega)
           clear c67
           by_cases c68 : 1 < (x4_1.length : Int)
           ·rw [if_pos c68] at H
            have c68b0 : decide (1 < (x4_1.length : Int)) = true := decide_eq_true c68
            have c68b1 : decide (1 < x4_1.length) = true := decide_eq_true (by omega)
            clear c68
            replace H := Option.bind_eq_some_iff.mp H
            obtain ⟨⟨t277, t278, t279⟩, A690, H⟩ := H
            try dsimp only at H
            have A69 := Aside0.mk A690
            clear A690
            simp only [Option.some.injEq, Prod.mk.injEq] at H
            obtain ⟨rfl, rfl, rfl⟩ := H
            have hnb70 := NB244_245.out
            have hnc70 := NB245_244.out
            obtain ⟨hcz71_0, hcz71_1, hcz71_2, hcz71_3, hfz71_0, hfz71_1, hfz71_2, hfz71_3⟩ := cz4 BK244
            try go_wp2
            replace HO_4 := Aside0.mk (Kd.R_drew HO_4.out)
            replace BK244 := Aside0.mk (blk_drew BK244.out)
            replace BK245 := Aside0.mk (blk_drew BK245.out)
            replace HB := Aside0.mk (below_drew1 HB.out)
            obtain ⟨Ao73, co73, eo73⟩ := Kd.R_slice HO_4.out
            (first | subst eo73 | (injection eo73 with f1_ f2_ f3_; have f4_ := f1_.symm; have f5_ := f3_.symm; clear f1_ f2_ f3_; subst f4_; subst f5_))
            have p275 : 0 ≤ (0 : Int) := (by omega)
            have q275 : 0 < (x4_1.length : Int) := of_decide_eq_true (by first | (with_reducible assumption) | assumption)
            obtain ⟨ad275, e275, hx275_0, hx275_1⟩ := at_T31 (Kd.R_reads' HO_4.out).2.2 0 p275 q275
            cases e275
            have qi275 : (0 < x4_1.length) = True := eq_true (by omega)
            (try rw [show ((0 : Int)).toNat = 0 from rfl] at hx275_0)
            (try rw [show 0 * 2 = 0 from rfl] at hx275_0)
            (try rw [Addr.add_zero'] at hx275_0)
            (try rw [show ((0 : Int)).toNat = 0 from rfl] at hx275_1)
            (try rw [show 0 * 2 = 0 from rfl] at hx275_1)
            (try rw [Addr.add_zero'] at hx275_1)
            replace p275 := eq_true p275
            replace q275 := eq_true q275
            have p276 : 0 ≤ (1 : Int) := (by omega)
            have q276 : 1 < (x4_1.length : Int) := of_decide_eq_true (by first | (with_reducible assumption) | assumption)
            obtain ⟨ad276, e276, hx276_0, hx276_1⟩ := at_T31 (Kd.R_reads' HO_4.out).2.2 1 p276 q276
            obtain rfl : ad275 = ad276 := (by injection e276)
            (try simp only [show (1 : Int).toNat = 1 from rfl, Nat.reduceMul, Nat.reduceEqDiff, Go.Addr.add, ↓reduceIte] at hx276_0)
            (try simp only [show (1 : Int).toNat = 1 from rfl, Nat.reduceMul, Nat.reduceEqDiff, Go.Addr.add, ↓reduceIte] at hx276_1)
            have qi276 : (1 < x4_1.length) = True := eq_true (by omega)
            (try rw [show ((1 : Int)).toNat = 1 from rfl] at hx276_0)
            (try rw [show 1 * 2 = 2 from rfl] at hx276_0)
            (try rw [show ((1 : Int)).toNat = 1 from rfl] at hx276_1)
            (try rw [show 1 * 2 = 2 from rfl] at hx276_1)
            replace p276 := eq_true p276
            replace q276 := eq_true q276
            refine start_ (n := 11) (S := fun w' => w'.cell? ad275 = some (.int .i64 ((rd_T31 x4_1 0).f0)) ∧ w'.cell? ⟨ad275.block, ad275.off + 1, none⟩ = some (.int .i64 ((rd_T31 x4_1 0).f1)) ∧ w'.cell? ⟨ad275.block, ad275.off + 2, none⟩ = some (.int .i64 ((rd_T31 x4_1 1).f0)) ∧ w'.cell? ⟨ad275.block, ad275.off + 2 + 1, none⟩ = some (.int .i64 ((rd_T31 x4_1 1).f1))) (ds := []) #[false, false, false, false, false, false, false, false, false, false, false] (by kernel_rfl) rfl rfl ⟨hx275_0, hx275_1, hx276_0, hx276_1⟩ (fun hHeld => ?_); refine with_tabW spec_l31Span.tab21 spec_l31Span.bits21 (fun HT_ HW_ => ?_)
            generalize wr.drew = w72 at HO_4 BK244 BK245 HB hx275_0 hx275_1 hx276_0 hx276_1 hHeld ⊢
            refine pU 0 77 #[true, false, false, false, false, false, false, false, false, false, false] HT_ ?_
            refine pU 1 78 #[true, true, false, false, false, false, false, false, false, false, false] HT_ ?_
            refine pU 3 80 #[true, true, false, true, false, false, false, false, false, false, false] HT_ ?_
            refine pU 4 81 #[true, true, false, true, true, false, false, false, false, false, false] HT_ ?_
            refine take_ (i := 2) (N := some 79) (v := ?_) (a' := ?_) #[true, true, true, true, true, false, false, false, false, false, false] rfl rfl (take_ofW HT_.out HW_.out (by kernel_rfl)) (fun _ _ _ h => h) (Or.inl ⟨by rfl, ?_⟩) hHeld ?_ ?_
            rotate_left
            ·rintro w' ⟨s0, s1, s2, s3⟩
             go_simp
             with_reducible rfl
            rotate_left
            ·simp only [Act.put, List.setIfInBounds_toArray, List.set_cons_zero, List.set_cons_succ, i64_w, i32_w]
             rfl
            refine take_ (i := 5) (N := some 82) (v := ?_) (a' := ?_) #[true, true, true, true, true, true, false, false, false, false, false] rfl rfl (take_ofW HT_.out HW_.out (by kernel_rfl)) (fun _ _ _ h => h) (Or.inl ⟨by rfl, ?_⟩) hHeld ?_ ?_
            rotate_left
            ·rintro w' ⟨s0, s1, s2, s3⟩
             go_simp
             with_reducible rfl
            rotate_left
            ·simp only [Act.put, List.setIfInBounds_toArray, List.set_cons_zero, List.set_cons_succ, i64_w, i32_w]
             rfl
            refine oN 6 83 #[true, true, true, true, true, true, true, false, false, false, false] HT_ (fun K hK => ?_)
            refine gS Try.func79 #[.agg #[.int .i64 ((rd_T31 x4_1 0).f0), .int .i64 ((rd_T31 x4_1 0).f1)], .agg #[.int .i64 ((rd_T31 x4_1 1).f0), .int .i64 ((rd_T31 x4_1 1).f1)]] ?_
            with_reducible refine (spec_SpanSub.calls ((rd_T31 x4_1 0).f0) ((rd_T31 x4_1 0).f1) ((rd_T31 x4_1 1).f0) ((rd_T31 x4_1 1).f1) t277 t278 t279 _ A69.out).mono ?_
            rintro e w74 ⟨rfl, hb⟩
            have HS0_ := (hb.cell (World.block_lt_of_cell? _ _ (hHeld.1))).trans (hHeld.1)
            have HS1_ := (hb.cell (World.block_lt_of_cell? _ _ (hHeld.2.1))).trans (hHeld.2.1)
            have HS2_ := (hb.cell (World.block_lt_of_cell? _ _ (hHeld.2.2.1))).trans (hHeld.2.2.1)
            have HS3_ := (hb.cell (World.block_lt_of_cell? _ _ (hHeld.2.2.2))).trans (hHeld.2.2.2)
            refine ⟨_, rfl, ?_⟩
            replace HO_4 := Aside0.mk (Kd.R_below (by (with_reducible repeat (first | apply Kd.R_alloc | apply Kd.R_drewN | apply Kd.R_drew)); exact HO_4.out) hb)
            replace BK244 := bb (bk BK244) hb
            replace BK245 := bb (bk BK245) hb
            replace HB := hbb (hzs HB) hb
            clear hb
            refine hK.out _ _ ⟨HS0_, HS1_, HS2_, HS3_⟩ (fun hHeld => ?_)
            clear hK K
            refine nP ?_
            refine pU 7 84 #[true, true, true, true, true, true, true, true, false, false, false] HT_ ?_
            refine pU 8 85 #[true, true, true, true, true, true, true, true, true, false, false] HT_ ?_
            refine one_ (i := 9) (N := none) #[true, true, true, true, true, true, true, true, true, true, false] rfl rfl (one_of HT_.out (by kernel_rfl)) (by decide) (fun K hK => ?_)
            have hs75 : w74.cell? ⟨gb245, 0, none⟩ = some (.int .i64 x246000_1) := (blk_cell BK245.out 0).trans rfl
            have hfs75 := blk_frozen BK245.out 0
            have hns75_0 := NB244_245.out
            have hms75_0 := NB245_244.out
            have hs76 : w74.cell? ⟨gb245, 1, none⟩ = some (.int .i64 x246001_1) := (blk_cell BK245.out 1).trans rfl
            have hfs76 := blk_frozen BK245.out 1
            have hns76_0 := NB244_245.out
            have hms76_0 := NB245_244.out
            refine skip_ (w1 := ?_) (by rfl) rfl ?_ ?_
            rotate_left
            ·go_simp
             rfl
            refine hK.out _ _ ⟨((cell_far (p := ⟨gb245, _, none⟩) (by first | exact Kd.own_blk (Kd.R_away HO_4.out (fun _ hk => hk)) | (rw [add_block]; exact Kd.own_blk (Kd.R_away HO_4.out (fun _ hk => hk))) | (show (Addr.add _ _).block ≠ _; rw [add_block]; exact Kd.own_blk (Kd.R_away HO_4.out (fun _ hk => hk))) | (dsimp only; exact Kd.own_blk (Kd.R_away HO_4.out (fun _ hk => hk)))) _).trans (((cell_far (p := ⟨gb245, _, none⟩) (by first | exact Kd.own_blk (Kd.R_away HO_4.out (fun _ hk => hk)) | (rw [add_block]; exact Kd.own_blk (Kd.R_away HO_4.out (fun _ hk => hk))) | (show (Addr.add _ _).block ≠ _; rw [add_block]; exact Kd.own_blk (Kd.R_away HO_4.out (fun _ hk => hk))) | (dsimp only; exact Kd.own_blk (Kd.R_away HO_4.out (fun _ hk => hk)))) _).trans (hHeld.1)))), ((cell_far (p := ⟨gb245, _, none⟩) (by first | exact Kd.own_blk (Kd.R_away HO_4.out (fun _ hk => hk)) | (rw [add_block]; exact Kd.own_blk (Kd.R_away HO_4.out (fun _ hk => hk))) | (show (Addr.add _ _).block ≠ _; rw [add_block]; exact Kd.own_blk (Kd.R_away HO_4.out (fun _ hk => hk))) | (dsimp only; exact Kd.own_blk (Kd.R_away HO_4.out (fun _ hk => hk)))) _).trans (((cell_far (p := ⟨gb245, _, none⟩) (by first | exact Kd.own_blk (Kd.R_away HO_4.out (fun _ hk => hk)) | (rw [add_block]; exact Kd.own_blk (Kd.R_away HO_4.out (fun _ hk => hk))) | (show (Addr.add _ _).block ≠ _; rw [add_block]; exact Kd.own_blk (Kd.R_away HO_4.out (fun _ hk => hk))) | (dsimp only; exact Kd.own_blk (Kd.R_away HO_4.out (fun _ hk => hk)))) _).trans (hHeld.2.1)))), ((cell_far (p := ⟨gb245, _, none⟩) (by first | exact Kd.own_blk (Kd.R_away HO_4.out (fun _ hk => hk)) | (rw [add_block]; exact Kd.own_blk (Kd.R_away HO_4.out (fun _ hk => hk))) | (show (Addr.add _ _).block ≠ _; rw [add_block]; exact Kd.own_blk (Kd.R_away HO_4.out (fun _ hk => hk))) | (dsimp only; exact Kd.own_blk (Kd.R_away HO_4.out (fun _ hk => hk)))) _).trans (((cell_far (p := ⟨gb245, _, none⟩) (by first | exact Kd.own_blk (Kd.R_away HO_4.out (fun _ hk => hk)) | (rw [add_block]; exact Kd.own_blk (Kd.R_away HO_4.out (fun _ hk => hk))) | (show (Addr.add _ _).block ≠ _; rw [add_block]; exact Kd.own_blk (Kd.R_away HO_4.out (fun _ hk => hk))) | (dsimp only; exact Kd.own_blk (Kd.R_away HO_4.out (fun _ hk => hk)))) _).trans (hHeld.2.2.1)))), ((cell_far (p := ⟨gb245, _, none⟩) (by first | exact Kd.own_blk (Kd.R_away HO_4.out (fun _ hk => hk)) | (rw [add_block]; exact Kd.own_blk (Kd.R_away HO_4.out (fun _ hk => hk))) | (show (Addr.add _ _).block ≠ _; rw [add_block]; exact Kd.own_blk (Kd.R_away HO_4.out (fun _ hk => hk))) | (dsimp only; exact Kd.own_blk (Kd.R_away HO_4.out (fun _ hk => hk)))) _).trans (((cell_far (p := ⟨gb245, _, none⟩) (by first | exact Kd.own_blk (Kd.R_away HO_4.out (fun _ hk => hk)) | (rw [add_block]; exact Kd.own_blk (Kd.R_away HO_4.out (fun _ hk => hk))) | (show (Addr.add _ _).block ≠ _; rw [add_block]; exact Kd.own_blk (Kd.R_away HO_4.out (fun _ hk => hk))) | (dsimp only; exact Kd.own_blk (Kd.R_away HO_4.out (fun _ hk => hk)))) _).trans (hHeld.2.2.2))))⟩ (fun hHeld => ?_)
            clear hK K
            refine pU 10 3 #[true, true, true, true, true, true, true, true, true, true, true] HT_ ?_
            refine done_ (done_of HT_.out (by kernel_rfl)) ?_
            try go_wp2
            refine bodyPost_ret (results_ct rfl _ _ gb245 31 #[.int .i64 t277, .int .i64 t278] (0, 0) _ rfl (bkp BK245) Try.underlying31 rfl (by kernel_rfl)) rfl ?_
            exact ⟨by first | rfl | (simp [errW_none, errW_some] <;> rfl) | (simp [*, errW_none, errW_some] <;> rfl), hzs HB⟩
           ·rw [if_neg c68] at H
            exact absurd H (by simp)
          ·rw [if_neg c67] at H
           exact absurd H (by simp)
         ·rw [if_neg c66] at H
          have c66b0 : (a0_0 == 6) = false := beq_eq_false_iff_ne.mpr c66
          have c66b1 : (a0_0 != 6) = true := bne_iff_ne.mpr c66
          by_cases c77 : a0_0 = 7
          ·rw [if_pos c77] at H
           have c77b0 : (a0_0 == 7) = true := beq_iff_eq.mpr c77
           have c77b1 : (a0_0 != 7) = false := bne_eq_false_iff_eq.mpr c77
           clear c77
           by_cases c78 : 0 < (x4_1.length : Int)
           ·rw [if_pos c78] at H
            have c78b0 : decide (0 < (x4_1.length : Int)) = true := decide_eq_true c78
            have c78b1 : decide (0 < x4_1.length) = true := decide_eq_true (by omega)
            clear c78
            by_cases c79 : 1 < (x4_1.length : Int)
            ·rw [if_pos c79] at H
             have c79b0 : decide (1 < (x4_1.length : Int)) = true := decide_eq_true c79
             have c79b1 : decide (1 < x4_1.length) = true := decide_eq_true (by omega)
             clear c79
             replace H := Option.bind_eq_some_iff.mp H
             obtain ⟨⟨t282, t283, t284⟩, A800, H⟩ := H
             try dsimp only at H
             have A80 := Aside0.mk A800
             clear A800
             simp only [Option.some.injEq, Prod.mk.injEq] at H
             obtain ⟨rfl, rfl, rfl⟩ := H
             have hnb81 := NB244_245.out
             have hnc81 := NB245_244.out
             obtain ⟨hcz82_0, hcz82_1, hcz82_2, hcz82_3, hfz82_0, hfz82_1, hfz82_2, hfz82_3⟩ := cz4 BK244
             try go_wp2
             replace HO_4 := Aside0.mk (Kd.R_drew HO_4.out)
             replace BK244 := Aside0.mk (blk_drew BK244.out)
             replace BK245 := Aside0.mk (blk_drew BK245.out)
             replace HB := Aside0.mk (below_drew1 HB.out)
             obtain ⟨Ao84, co84, eo84⟩ := Kd.R_slice HO_4.out
             (first | subst eo84 | (injection eo84 with f1_ f2_ f3_; have f4_ := f1_.symm; have f5_ := f3_.symm; clear f1_ f2_ f3_; subst f4_; subst f5_))
             have p280 : 0 ≤ (0 : Int) := (by omega)
             have q280 : 0 < (x4_1.length : Int) := of_decide_eq_true (by first | (with_reducible assumption) | assumption)
             obtain ⟨ad280, e280, hx280_0, hx280_1⟩ := at_T31 (Kd.R_reads' HO_4.out).2.2 0 p280 q280
             cases e280
             have qi280 : (0 < x4_1.length) = True := eq_true (by omega)
             (try rw [show ((0 : Int)).toNat = 0 from rfl] at hx280_0)
             (try rw [show 0 * 2 = 0 from rfl] at hx280_0)
             (try rw [Addr.add_zero'] at hx280_0)
             (try rw [show ((0 : Int)).toNat = 0 from rfl] at hx280_1)
             (try rw [show 0 * 2 = 0 from rfl] at hx280_1)
             (try rw [Addr.add_zero'] at hx280_1)
             replace p280 := eq_true p280
             replace q280 := eq_true q280
             have p281 : 0 ≤ (1 : Int) := (by omega)
             have q281 : 1 < (x4_1.length : Int) := of_decide_eq_true (by first | (with_reducible assumption) | assumption)
             obtain ⟨ad281, e281, hx281_0, hx281_1⟩ := at_T31 (Kd.R_reads' HO_4.out).2.2 1 p281 q281
             obtain rfl : ad280 = ad281 := (by injection e281)
             (try simp only [show (1 : Int).toNat = 1 from rfl, Nat.reduceMul, Nat.reduceEqDiff, Go.Addr.add, ↓reduceIte] at hx281_0)
             (try simp only [show (1 : Int).toNat = 1 from rfl, Nat.reduceMul, Nat.reduceEqDiff, Go.Addr.add, ↓reduceIte] at hx281_1)
             have qi281 : (1 < x4_1.length) = True := eq_true (by omega)
             (try rw [show ((1 : Int)).toNat = 1 from rfl] at hx281_0)
             (try rw [show 1 * 2 = 2 from rfl] at hx281_0)
             (try rw [show ((1 : Int)).toNat = 1 from rfl] at hx281_1)
             (try rw [show 1 * 2 = 2 from rfl] at hx281_1)
             replace p281 := eq_true p281
             replace q281 := eq_true q281
             refine start_ (n := 11) (S := fun w' => w'.cell? ad280 = some (.int .i64 ((rd_T31 x4_1 0).f0)) ∧ w'.cell? ⟨ad280.block, ad280.off + 1, none⟩ = some (.int .i64 ((rd_T31 x4_1 0).f1)) ∧ w'.cell? ⟨ad280.block, ad280.off + 2, none⟩ = some (.int .i64 ((rd_T31 x4_1 1).f0)) ∧ w'.cell? ⟨ad280.block, ad280.off + 2 + 1, none⟩ = some (.int .i64 ((rd_T31 x4_1 1).f1))) (ds := []) #[false, false, false, false, false, false, false, false, false, false, false] (by kernel_rfl) rfl rfl ⟨hx280_0, hx280_1, hx281_0, hx281_1⟩ (fun hHeld => ?_); refine with_tabW spec_l31Span.tab23 spec_l31Span.bits23 (fun HT_ HW_ => ?_)
             generalize wr.drew = w83 at HO_4 BK244 BK245 HB hx280_0 hx280_1 hx281_0 hx281_1 hHeld ⊢
             refine pU 0 88 #[true, false, false, false, false, false, false, false, false, false, false] HT_ ?_
             refine pU 1 89 #[true, true, false, false, false, false, false, false, false, false, false] HT_ ?_
             refine pU 3 91 #[true, true, false, true, false, false, false, false, false, false, false] HT_ ?_
             refine pU 4 92 #[true, true, false, true, true, false, false, false, false, false, false] HT_ ?_
             refine take_ (i := 2) (N := some 90) (v := ?_) (a' := ?_) #[true, true, true, true, true, false, false, false, false, false, false] rfl rfl (take_ofW HT_.out HW_.out (by kernel_rfl)) (fun _ _ _ h => h) (Or.inl ⟨by rfl, ?_⟩) hHeld ?_ ?_
             rotate_left
             ·rintro w' ⟨s0, s1, s2, s3⟩
              go_simp
              with_reducible rfl
             rotate_left
             ·simp only [Act.put, List.setIfInBounds_toArray, List.set_cons_zero, List.set_cons_succ, i64_w, i32_w]
              rfl
             refine take_ (i := 5) (N := some 93) (v := ?_) (a' := ?_) #[true, true, true, true, true, true, false, false, false, false, false] rfl rfl (take_ofW HT_.out HW_.out (by kernel_rfl)) (fun _ _ _ h => h) (Or.inl ⟨by rfl, ?_⟩) hHeld ?_ ?_
             rotate_left
             ·rintro w' ⟨s0, s1, s2, s3⟩
              go_simp
              with_reducible rfl
             rotate_left
             ·simp only [Act.put, List.setIfInBounds_toArray, List.set_cons_zero, List.set_cons_succ, i64_w, i32_w]
              rfl
             refine oN 6 94 #[true, true, true, true, true, true, true, false, false, false, false] HT_ (fun K hK => ?_)
             refine gS Try.func80 #[.agg #[.int .i64 ((rd_T31 x4_1 0).f0), .int .i64 ((rd_T31 x4_1 0).f1)], .agg #[.int .i64 ((rd_T31 x4_1 1).f0), .int .i64 ((rd_T31 x4_1 1).f1)]] ?_
             with_reducible refine (spec_SpanMul.calls k1 ((rd_T31 x4_1 0).f0) ((rd_T31 x4_1 0).f1) ((rd_T31 x4_1 1).f0) ((rd_T31 x4_1 1).f1) t282 t283 t284 _ A80.out).mono ?_
             rintro e w85 ⟨rfl, hb⟩
             have HS0_ := (hb.cell (World.block_lt_of_cell? _ _ (hHeld.1))).trans (hHeld.1)
             have HS1_ := (hb.cell (World.block_lt_of_cell? _ _ (hHeld.2.1))).trans (hHeld.2.1)
             have HS2_ := (hb.cell (World.block_lt_of_cell? _ _ (hHeld.2.2.1))).trans (hHeld.2.2.1)
             have HS3_ := (hb.cell (World.block_lt_of_cell? _ _ (hHeld.2.2.2))).trans (hHeld.2.2.2)
             refine ⟨_, rfl, ?_⟩
             replace HO_4 := Aside0.mk (Kd.R_below (by (with_reducible repeat (first | apply Kd.R_alloc | apply Kd.R_drewN | apply Kd.R_drew)); exact HO_4.out) hb)
             replace BK244 := bb (bk BK244) hb
             replace BK245 := bb (bk BK245) hb
             replace HB := hbb (hzs HB) hb
             clear hb
             refine hK.out _ _ ⟨HS0_, HS1_, HS2_, HS3_⟩ (fun hHeld => ?_)
             clear hK K
             refine nP ?_
             refine pU 7 95 #[true, true, true, true, true, true, true, true, false, false, false] HT_ ?_
             refine pU 8 96 #[true, true, true, true, true, true, true, true, true, false, false] HT_ ?_
             refine one_ (i := 9) (N := none) #[true, true, true, true, true, true, true, true, true, true, false] rfl rfl (one_of HT_.out (by kernel_rfl)) (by decide) (fun K hK => ?_)
             have hs86 : w85.cell? ⟨gb245, 0, none⟩ = some (.int .i64 x246000_1) := (blk_cell BK245.out 0).trans rfl
             have hfs86 := blk_frozen BK245.out 0
             have hns86_0 := NB244_245.out
             have hms86_0 := NB245_244.out
             have hs87 : w85.cell? ⟨gb245, 1, none⟩ = some (.int .i64 x246001_1) := (blk_cell BK245.out 1).trans rfl
             have hfs87 := blk_frozen BK245.out 1
             have hns87_0 := NB244_245.out
             have hms87_0 := NB245_244.out
             refine skip_ (w1 := ?_) (by rfl) rfl ?_ ?_
             rotate_left
             ·go_simp
              rfl
             refine hK.out _ _ ⟨((cell_far (p := ⟨gb245, _, none⟩) (by first | exact Kd.own_blk (Kd.R_away HO_4.out (fun _ hk => hk)) | (rw [add_block]; exact Kd.own_blk (Kd.R_away HO_4.out (fun _ hk => hk))) | (show (Addr.add _ _).block ≠ _; rw [add_block]; exact Kd.own_blk (Kd.R_away HO_4.out (fun _ hk => hk))) | (dsimp only; exact Kd.own_blk (Kd.R_away HO_4.out (fun _ hk => hk)))) _).trans (((cell_far (p := ⟨gb245, _, none⟩) (by first | exact Kd.own_blk (Kd.R_away HO_4.out (fun _ hk => hk)) | (rw [add_block]; exact Kd.own_blk (Kd.R_away HO_4.out (fun _ hk => hk))) | (show (Addr.add _ _).block ≠ _; rw [add_block]; exact Kd.own_blk (Kd.R_away HO_4.out (fun _ hk => hk))) | (dsimp only; exact Kd.own_blk (Kd.R_away HO_4.out (fun _ hk => hk)))) _).trans (hHeld.1)))), ((cell_far (p := ⟨gb245, _, none⟩) (by first | exact Kd.own_blk (Kd.R_away HO_4.out (fun _ hk => hk)) | (rw [add_block]; exact Kd.own_blk (Kd.R_away HO_4.out (fun _ hk => hk))) | (show (Addr.add _ _).block ≠ _; rw [add_block]; exact Kd.own_blk (Kd.R_away HO_4.out (fun _ hk => hk))) | (dsimp only; exact Kd.own_blk (Kd.R_away HO_4.out (fun _ hk => hk)))) _).trans (((cell_far (p := ⟨gb245, _, none⟩) (by first | exact Kd.own_blk (Kd.R_away HO_4.out (fun _ hk => hk)) | (rw [add_block]; exact Kd.own_blk (Kd.R_away HO_4.out (fun _ hk => hk))) | (show (Addr.add _ _).block ≠ _; rw [add_block]; exact Kd.own_blk (Kd.R_away HO_4.out (fun _ hk => hk))) | (dsimp only; exact Kd.own_blk (Kd.R_away HO_4.out (fun _ hk => hk)))) _).trans (hHeld.2.1)))), ((cell_far (p := ⟨gb245, _, none⟩) (by first | exact Kd.own_blk (Kd.R_away HO_4.out (fun _ hk => hk)) | (rw [add_block]; exact Kd.own_blk (Kd.R_away HO_4.out (fun _ hk => hk))) | (show (Addr.add _ _).block ≠ _; rw [add_block]; exact Kd.own_blk (Kd.R_away HO_4.out (fun _ hk => hk))) | (dsimp only; exact Kd.own_blk (Kd.R_away HO_4.out (fun _ hk => hk)))) _).trans (((cell_far (p := ⟨gb245, _, none⟩) (by first | exact Kd.own_blk (Kd.R_away HO_4.out (fun _ hk => hk)) | (rw [add_block]; exact Kd.own_blk (Kd.R_away HO_4.out (fun _ hk => hk))) | (show (Addr.add _ _).block ≠ _; rw [add_block]; exact Kd.own_blk (Kd.R_away HO_4.out (fun _ hk => hk))) | (dsimp only; exact Kd.own_blk (Kd.R_away HO_4.out (fun _ hk => hk)))) _).trans (hHeld.2.2.1)))), ((cell_far (p := ⟨gb245, _, none⟩) (by first | exact Kd.own_blk (Kd.R_away HO_4.out (fun _ hk => hk)) | (rw [add_block]; exact Kd.own_blk (Kd.R_away HO_4.out (fun _ hk => hk))) | (show (Addr.add _ _).block ≠ _; rw [add_block]; exact Kd.own_blk (Kd.R_away HO_4.out (fun _ hk => hk))) | (dsimp only; exact Kd.own_blk (Kd.R_away HO_4.out (fun _ hk => hk)))) _).trans (((cell_far (p := ⟨gb245, _, none⟩) (by first | exact Kd.own_blk (Kd.R_away HO_4.out (fun _ hk => hk)) | (rw [add_block]; exact Kd.own_blk (Kd.R_away HO_4.out (fun _ hk => hk))) | (show (Addr.add _ _).block ≠ _; rw [add_block]; exact Kd.own_blk (Kd.R_away HO_4.out (fun _ hk => hk))) | (dsimp only; exact Kd.own_blk (Kd.R_away HO_4.out (fun _ hk => hk)))) _).trans (hHeld.2.2.2))))⟩ (fun hHeld => ?_)
             clear hK K
             refine pU 10 3 #[true, true, true, true, true, true, true, true, true, true, true] HT_ ?_
             refine done_ (done_of HT_.out (by kernel_rfl)) ?_
             try go_wp2
             refine bodyPost_ret (results_ct rfl _ _ gb245 31 #[.int .i64 t282, .int .i64 t283] (0, 0) _ rfl (bkp BK245) Try.underlying31 rfl (by kernel_rfl)) rfl ?_
             exact ⟨by first | rfl | (simp [errW_none, errW_some] <;> rfl) | (simp [*, errW_none, errW_some] <;> rfl), hzs HB⟩
            ·rw [if_neg c79] at H
             exact absurd H (by simp)
           ·rw [if_neg c78] at H
            exact absurd H (by simp)
          ·rw [if_neg c77] at H
           have c77b0 : (a0_0 == 7) = false := beq_eq_false_iff_ne.mpr c77
           have c77b1 : (a0_0 != 7) = true := bne_iff_ne.mpr c77
           by_cases c88 : 0 < (x4_1.length : Int)
           ·rw [if_pos c88] at H
            have c88b0 : decide (0 < (x4_1.length : Int)) = true := decide_eq_true c88
            have c88b1 : decide (0 < x4_1.length) = true := decide_eq_true (by omega)
            clear c88
            by_cases c89 : 1 < (x4_1.length : Int)
            ·rw [if_pos c89] at H
             have c89b0 : decide (1 < (x4_1.length : Int)) = true := decide_eq_true c89
             have c89b1 : decide (1 < x4_1.length) = true := decide_eq_true (by omega)
             clear c89
             replace H := Option.bind_eq_some_iff.mp H
             obtain ⟨⟨t287, t288, t289⟩, A900, H⟩ := H
             try dsimp only at H
             have A90 := Aside0.mk A900
             clear A900
             simp only [Option.some.injEq, Prod.mk.injEq] at H
             obtain ⟨rfl, rfl, rfl⟩ := H
             have hnb91 := NB244_245.out
             have hnc91 := NB245_244.out
             obtain ⟨hcz92_0, hcz92_1, hcz92_2, hcz92_3, hfz92_0, hfz92_1, hfz92_2, hfz92_3⟩ := cz4 BK244
             try go_wp2
             replace HO_4 := Aside0.mk (Kd.R_drew HO_4.out)
             replace BK244 := Aside0.mk (blk_drew BK244.out)
             replace BK245 := Aside0.mk (blk_drew BK245.out)
             replace HB := Aside0.mk (below_drew1 HB.out)
             obtain ⟨Ao94, co94, eo94⟩ := Kd.R_slice HO_4.out
             (first | subst eo94 | (injection eo94 with f1_ f2_ f3_; have f4_ := f1_.symm; have f5_ := f3_.symm; clear f1_ f2_ f3_; subst f4_; subst f5_))
             have p285 : 0 ≤ (0 : Int) := (by omega)
             have q285 : 0 < (x4_1.length : Int) := of_decide_eq_true (by first | (with_reducible assumption) | assumption)
             obtain ⟨ad285, e285, hx285_0, hx285_1⟩ := at_T31 (Kd.R_reads' HO_4.out).2.2 0 p285 q285
             cases e285
             have qi285 : (0 < x4_1.length) = True := eq_true (by omega)
             (try rw [show ((0 : Int)).toNat = 0 from rfl] at hx285_0)
             (try rw [show 0 * 2 = 0 from rfl] at hx285_0)
             (try rw [Addr.add_zero'] at hx285_0)
             (try rw [show ((0 : Int)).toNat = 0 from rfl] at hx285_1)
             (try rw [show 0 * 2 = 0 from rfl] at hx285_1)
             (try rw [Addr.add_zero'] at hx285_1)
             replace p285 := eq_true p285
             replace q285 := eq_true q285
             have p286 : 0 ≤ (1 : Int) := (by omega)
             have q286 : 1 < (x4_1.length : Int) := of_decide_eq_true (by first | (with_reducible assumption) | assumption)
             obtain ⟨ad286, e286, hx286_0, hx286_1⟩ := at_T31 (Kd.R_reads' HO_4.out).2.2 1 p286 q286
             obtain rfl : ad285 = ad286 := (by injection e286)
             (try simp only [show (1 : Int).toNat = 1 from rfl, Nat.reduceMul, Nat.reduceEqDiff, Go.Addr.add, ↓reduceIte] at hx286_0)
             (try simp only [show (1 : Int).toNat = 1 from rfl, Nat.reduceMul, Nat.reduceEqDiff, Go.Addr.add, ↓reduceIte] at hx286_1)
             have qi286 : (1 < x4_1.length) = True := eq_true (by omega)
             (try rw [show ((1 : Int)).toNat = 1 from rfl] at hx286_0)
             (try rw [show 1 * 2 = 2 from rfl] at hx286_0)
             (try rw [show ((1 : Int)).toNat = 1 from rfl] at hx286_1)
             (try rw [show 1 * 2 = 2 from rfl] at hx286_1)
             replace p286 := eq_true p286
             replace q286 := eq_true q286
             refine start_ (n := 11) (S := fun w' => w'.cell? ad285 = some (.int .i64 ((rd_T31 x4_1 0).f0)) ∧ w'.cell? ⟨ad285.block, ad285.off + 1, none⟩ = some (.int .i64 ((rd_T31 x4_1 0).f1)) ∧ w'.cell? ⟨ad285.block, ad285.off + 2, none⟩ = some (.int .i64 ((rd_T31 x4_1 1).f0)) ∧ w'.cell? ⟨ad285.block, ad285.off + 2 + 1, none⟩ = some (.int .i64 ((rd_T31 x4_1 1).f1))) (ds := []) #[false, false, false, false, false, false, false, false, false, false, false] (by kernel_rfl) rfl rfl ⟨hx285_0, hx285_1, hx286_0, hx286_1⟩ (fun hHeld => ?_); refine with_tabW spec_l31Span.tab24 spec_l31Span.bits24 (fun HT_ HW_ => ?_)
             generalize wr.drew = w93 at HO_4 BK244 BK245 HB hx285_0 hx285_1 hx286_0 hx286_1 hHeld ⊢
             refine pU 0 97 #[true, false, false, false, false, false, false, false, false, false, false] HT_ ?_
             refine pU 1 98 #[true, true, false, false, false, false, false, false, false, false, false] HT_ ?_
             refine pU 3 100 #[true, true, false, true, false, false, false, false, false, false, false] HT_ ?_
             refine pU 4 101 #[true, true, false, true, true, false, false, false, false, false, false] HT_ ?_
             refine take_ (i := 2) (N := some 99) (v := ?_) (a' := ?_) #[true, true, true, true, true, false, false, false, false, false, false] rfl rfl (take_ofW HT_.out HW_.out (by kernel_rfl)) (fun _ _ _ h => h) (Or.inl ⟨by rfl, ?_⟩) hHeld ?_ ?_
             rotate_left
             ·rintro w' ⟨s0, s1, s2, s3⟩
              go_simp
              with_reducible rfl
             rotate_left
             ·simp only [Act.put, List.setIfInBounds_toArray, List.set_cons_zero, List.set_cons_succ, i64_w, i32_w]
              rfl
             refine take_ (i := 5) (N := some 102) (v := ?_) (a' := ?_) #[true, true, true, true, true, true, false, false, false, false, false] rfl rfl (take_ofW HT_.out HW_.out (by kernel_rfl)) (fun _ _ _ h => h) (Or.inl ⟨by rfl, ?_⟩) hHeld ?_ ?_
             rotate_left
             ·rintro w' ⟨s0, s1, s2, s3⟩
              go_simp
              with_reducible rfl
             rotate_left
             ·simp only [Act.put, List.setIfInBounds_toArray, List.set_cons_zero, List.set_cons_succ, i64_w, i32_w]
              rfl
             refine oN 6 103 #[true, true, true, true, true, true, true, false, false, false, false] HT_ (fun K hK => ?_)
             refine gS Try.func81 #[.agg #[.int .i64 ((rd_T31 x4_1 0).f0), .int .i64 ((rd_T31 x4_1 0).f1)], .agg #[.int .i64 ((rd_T31 x4_1 1).f0), .int .i64 ((rd_T31 x4_1 1).f1)]] ?_
             with_reducible refine (spec_SpanDiv.calls k1 ((rd_T31 x4_1 0).f0) ((rd_T31 x4_1 0).f1) ((rd_T31 x4_1 1).f0) ((rd_T31 x4_1 1).f1) t287 t288 t289 _ A90.out).mono ?_
             rintro e w95 ⟨rfl, hb⟩
             have HS0_ := (hb.cell (World.block_lt_of_cell? _ _ (hHeld.1))).trans (hHeld.1)
             have HS1_ := (hb.cell (World.block_lt_of_cell? _ _ (hHeld.2.1))).trans (hHeld.2.1)
             have HS2_ := (hb.cell (World.block_lt_of_cell? _ _ (hHeld.2.2.1))).trans (hHeld.2.2.1)
             have HS3_ := (hb.cell (World.block_lt_of_cell? _ _ (hHeld.2.2.2))).trans (hHeld.2.2.2)
             refine ⟨_, rfl, ?_⟩
             replace HO_4 := Aside0.mk (Kd.R_below (by (with_reducible repeat (first | apply Kd.R_alloc | apply Kd.R_drewN | apply Kd.R_drew)); exact HO_4.out) hb)
             replace BK244 := bb (bk BK244) hb
             replace BK245 := bb (bk BK245) hb
             replace HB := hbb (hzs HB) hb
             clear hb
             refine hK.out _ _ ⟨HS0_, HS1_, HS2_, HS3_⟩ (fun hHeld => ?_)
             clear hK K
             refine nP ?_
             refine pU 7 104 #[true, true, true, true, true, true, true, true, false, false, false] HT_ ?_
             refine pU 8 105 #[true, true, true, true, true, true, true, true, true, false, false] HT_ ?_
             refine one_ (i := 9) (N := none) #[true, true, true, true, true, true, true, true, true, true, false] rfl rfl (one_of HT_.out (by kernel_rfl)) (by decide) (fun K hK => ?_)
             have hs96 : w95.cell? ⟨gb245, 0, none⟩ = some (.int .i64 x246000_1) := (blk_cell BK245.out 0).trans rfl
             have hfs96 := blk_frozen BK245.out 0
             have hns96_0 := NB244_245.out
             have hms96_0 := NB245_244.out
             have hs97 : w95.cell? ⟨gb245, 1, none⟩ = some (.int .i64 x246001_1) := (blk_cell BK245.out 1).trans rfl
             have hfs97 := blk_frozen BK245.out 1
             have hns97_0 := NB244_245.out
             have hms97_0 := NB245_244.out
             refine skip_ (w1 := ?_) (by rfl) rfl ?_ ?_
             rotate_left
             ·go_simp
              rfl
             refine hK.out _ _ ⟨((cell_far (p := ⟨gb245, _, none⟩) (by first | exact Kd.own_blk (Kd.R_away HO_4.out (fun _ hk => hk)) | (rw [add_block]; exact Kd.own_blk (Kd.R_away HO_4.out (fun _ hk => hk))) | (show (Addr.add _ _).block ≠ _; rw [add_block]; exact Kd.own_blk (Kd.R_away HO_4.out (fun _ hk => hk))) | (dsimp only; exact Kd.own_blk (Kd.R_away HO_4.out (fun _ hk => hk)))) _).trans (((cell_far (p := ⟨gb245, _, none⟩) (by first | exact Kd.own_blk (Kd.R_away HO_4.out (fun _ hk => hk)) | (rw [add_block]; exact Kd.own_blk (Kd.R_away HO_4.out (fun _ hk => hk))) | (show (Addr.add _ _).block ≠ _; rw [add_block]; exact Kd.own_blk (Kd.R_away HO_4.out (fun _ hk => hk))) | (dsimp only; exact Kd.own_blk (Kd.R_away HO_4.out (fun _ hk => hk)))) _).trans (hHeld.1)))), ((cell_far (p := ⟨gb245, _, none⟩) (by first | exact Kd.own_blk (Kd.R_away HO_4.out (fun _ hk => hk)) | (rw [add_block]; exact Kd.own_blk (Kd.R_away HO_4.out (fun _ hk => hk))) | (show (Addr.add _ _).block ≠ _; rw [add_block]; exact Kd.own_blk (Kd.R_away HO_4.out (fun _ hk => hk))) | (dsimp only; exact Kd.own_blk (Kd.R_away HO_4.out (fun _ hk => hk)))) _).trans (((cell_far (p := ⟨gb245, _, none⟩) (by first | exact Kd.own_blk (Kd.R_away HO_4.out (fun _ hk => hk)) | (rw [add_block]; exact Kd.own_blk (Kd.R_away HO_4.out (fun _ hk => hk))) | (show (Addr.add _ _).block ≠ _; rw [add_block]; exact Kd.own_blk (Kd.R_away HO_4.out (fun _ hk => hk))) | (dsimp only; exact Kd.own_blk (Kd.R_away HO_4.out (fun _ hk => hk)))) _).trans (hHeld.2.1)))), ((cell_far (p := ⟨gb245, _, none⟩) (by first | exact Kd.own_blk (Kd.R_away HO_4.out (fun _ hk => hk)) | (rw [add_block]; exact Kd.own_blk (Kd.R_away HO_4.out (fun _ hk => hk))) | (show (Addr.add _ _).block ≠ _; rw [add_block]; exact Kd.own_blk (Kd.R_away HO_4.out (fun _ hk => hk))) | (dsimp only; exact Kd.own_blk (Kd.R_away HO_4.out (fun _ hk => hk)))) _).trans (((cell_far (p := ⟨gb245, _, none⟩) (by first | exact Kd.own_blk (Kd.R_away HO_4.out (fun _ hk => hk)) | (rw [add_block]; exact Kd.own_blk (Kd.R_away HO_4.out (fun _ hk => hk))) | (show (Addr.add _ _).block ≠ _; rw [add_block]; exact Kd.own_blk (Kd.R_away HO_4.out (fun _ hk => hk))) | (dsimp only; exact Kd.own_blk (Kd.R_away HO_4.out (fun _ hk => hk)))) _).trans (hHeld.2.2.1)))), ((cell_far (p := ⟨gb245, _, none⟩) (by first | exact Kd.own_blk (Kd.R_away HO_4.out (fun _ hk => hk)) | (rw [add_block]; exact Kd.own_blk (Kd.R_away HO_4.out (fun _ hk => hk))) | (show (Addr.add _ _).block ≠ _; rw [add_block]; exact Kd.own_blk (Kd.R_away HO_4.out (fun _ hk => hk))) | (dsimp only; exact Kd.own_blk (Kd.R_away HO_4.out (fun _ hk => hk)))) _).trans (((cell_far (p := ⟨gb245, _, none⟩) (by first | exact Kd.own_blk (Kd.R_away HO_4.out (fun _ hk => hk)) | (rw [add_block]; exact Kd.own_blk (Kd.R_away HO_4.out (fun _ hk => hk))) | (show (Addr.add _ _).block ≠ _; rw [add_block]; exact Kd.own_blk (Kd.R_away HO_4.out (fun _ hk => hk))) | (dsimp only; exact Kd.own_blk (Kd.R_away HO_4.out (fun _ hk => hk)))) _).trans (hHeld.2.2.2))))⟩ (fun hHeld => ?_)
             clear hK K
             refine pU 10 3 #[true, true, true, true, true, true, true, true, true, true, true] HT_ ?_
             refine done_ (done_of HT_.out (by kernel_rfl)) ?_
             try go_wp2
             refine bodyPost_ret (results_ct rfl _ _ gb245 31 #[.int .i64 t287, .int .i64 t288] (0, 0) _ rfl (bkp BK245) Try.underlying31 rfl (by kernel_rfl)) rfl ?_
             exact ⟨by first | rfl | (simp [errW_none, errW_some] <;> rfl) | (simp [*, errW_none, errW_some] <;> rfl), hzs HB⟩
            ·rw [if_neg c89] at H
             exact absurd H (by simp)
           ·rw [if_neg c88] at H
            exact absurd H (by simp)


/-! ### spec_ExprSpan: function 31 -/
def spec_ExprSpan.f (k : Nat) (a0_0 : Int) (a0_1 : Int) (a0_2 : Int) (l0_3 : List (S25)) : Option (Int × Int × Bool) := (spec_ExprOk.f k a0_0 a0_1 a0_2 l0_3).bind fun t292 => (if t292 = true then ((spec_l31Span.f k a0_0 a0_1 a0_2 l0_3).bind fun bt293 => (some (bt293.1, bt293.2.1, bt293.2.2))) else (some (0, 0, false)))
set_option maxHeartbeats 8000000 in
set_option maxRecDepth 100000 in
theorem spec_ExprSpan.calls (k : Nat) (a0_0 : Int) (a0_1 : Int) (a0_2 : Int) (A0_3 : Option Addr) (c0_3 : Nat) (l0_3 : List (S25)) (r1 : Int) (r2 : Int) (r3 : Bool) (w : World) (hr0_3 : Kd.C k25 w A0_3 l0_3.length l0_3) (hc0_3 : l0_3.length ≤ c0_3) (h : spec_ExprSpan.f k a0_0 a0_1 a0_2 l0_3 = some (r1, r2, r3)) :
  Calls Try.prog 31 #[.agg #[.int .i64 a0_0, .int .i64 a0_1, .int .i64 a0_2, .slice A0_3 l0_3.length c0_3]] w fun e w' => e = .returned (.tuple #[.agg #[.int .i64 r1, .int .i64 r2], .bool r3]) ∧ Below w.heap.size w w' := by
 have hu25 := Try.underlying25
 have hu31 := Try.underlying31
 have HR0_3 := Aside0.mk hr0_3
 have HC0_3 := Aside0.mk hc0_3
 clear hr0_3 hc0_3
 have HB := Aside0.mk (Below.refl w.heap.size w)
 have H := h
 clear h
 unfold spec_ExprSpan.f at H
 replace H := Option.bind_eq_some_iff.mp H
 obtain ⟨t292, A20, H⟩ := H
 try dsimp only at H
 have A2 := Aside0.mk A20
 clear A20
 by_cases c3 : t292 = true
 ·subst c3
  rw [if_pos rfl] at H
  replace H := Option.bind_eq_some_iff.mp H
  obtain ⟨⟨t293, t294, t295⟩, A40, H⟩ := H
  try dsimp only at H
  have A4 := Aside0.mk A40
  clear A40
  simp only [Option.some.injEq, Prod.mk.injEq] at H
  obtain ⟨rfl, rfl, rfl⟩ := H
  go_enter Try.func31, Try.ntmps31
  go_wp2_with (first | ((with_reducible refine gate_dst (N := 1) rfl ?_); refine bE 1 #[.int .i64 a0_0, .int .i64 a0_1, .int .i64 a0_2, .slice A0_3 l0_3.length c0_3] 25 ?_; intro gb290 hg w5 hbox hb; have BK290 := Aside0.mk (hbox); have GE290 := gw hg (hz0 HB); have GW290 := GE290; replace HB := hbb (hz0 HB) hb; clear hb hbox hg) | ((with_reducible refine gate_dst (N := 2) rfl ?_); refine bE 2 #[.int .i64 0, .int .i64 0] 31 ?_; intro gb291 hg w6 hbox hb; have BK291 := Aside0.mk (hbox); have GE291 := gw hg (hzs HB); have GW291 := GE291; have NB290_291 := nl hg (bk BK290); have NB291_290 := ng hg (bk BK290); replace BK290 := bb (bk BK290) hb; replace HB := hbb (hzs HB) hb; clear hb hbox hg; have hnb7 := NB290_291.out; have hnc7 := NB291_290.out; obtain ⟨hcz8_0, hcz8_1, hcz8_2, hcz8_3, hfz8_0, hfz8_1, hfz8_2, hfz8_3⟩ := cz4 BK290) | ((with_reducible refine gate_callee (f := 21) rfl ?_); refine gL 5 Try.func21 #[.agg #[.int .i64 a0_0, .int .i64 a0_1, .int .i64 a0_2, .slice A0_3 l0_3.length c0_3]] ?_; (with_reducible refine (spec_ExprOk.calls k a0_0 a0_1 a0_2 _ _ l0_3 true _ ?side1 ?side2 A2.out).mono ?_); (case side1 => repeat (first | exact (Kd.C_below HR0_3.out HB.out) | (with_reducible refine Kd.C_alloc ?_ _) | (with_reducible refine Kd.C_drewN ?_ _) | (with_reducible refine Kd.C_drew ?_))); (case side2 => exact HC0_3.out); rintro e w9 ⟨rfl, hb⟩; refine ⟨_, rfl, ?_⟩; replace BK290 := bb (bk BK290) hb; replace BK291 := bb (bk BK291) hb; replace HB := hbb (hzs HB) hb; clear hb; obtain ⟨hcz10_0, hcz10_1, hcz10_2, hcz10_3, hfz10_0, hfz10_1, hfz10_2, hfz10_3⟩ := cz4 BK290) | ((with_reducible refine gate_callee (f := 54) rfl ?_); refine gL 9 Try.func54 #[.agg #[.int .i64 a0_0, .int .i64 a0_1, .int .i64 a0_2, .slice A0_3 l0_3.length c0_3]] ?_; (with_reducible refine (spec_l31Span.calls k a0_0 a0_1 a0_2 _ _ l0_3 t293 t294 t295 _ ?side1 ?side2 A4.out).mono ?_); (case side1 => repeat (first | exact (Kd.C_below HR0_3.out HB.out) | (with_reducible refine Kd.C_alloc ?_ _) | (with_reducible refine Kd.C_drewN ?_ _) | (with_reducible refine Kd.C_drew ?_))); (case side2 => exact HC0_3.out); rintro e w11 ⟨rfl, hb⟩; refine ⟨_, rfl, ?_⟩; replace BK290 := bb (bk BK290) hb; replace BK291 := bb (bk BK291) hb; replace HB := hbb (hzs HB) hb; clear hb; obtain ⟨hcz12_0, hcz12_1, hfz12_0, hfz12_1⟩ := cz2 BK291))
  refine bodyPost_ret (results_ct rfl _ _ gb291 31 #[.int .i64 t293, .int .i64 t294] (0, 0) _ rfl (bkp BK291) Try.underlying31 rfl (by kernel_rfl)) rfl ?_
  exact ⟨by first | rfl | (simp [errW_none, errW_some] <;> rfl) | (simp [*, errW_none, errW_some] <;> rfl), hzs HB⟩
 ·replace c3 := Bool.eq_false_iff.mpr c3
  subst c3
  rw [if_neg (show ¬ (false = true) by decide)] at H
  simp only [Option.some.injEq, Prod.mk.injEq] at H
  obtain ⟨rfl, rfl, rfl⟩ := H
  go_enter Try.func31, Try.ntmps31
  go_wp2_with (first | ((with_reducible refine gate_dst (N := 1) rfl ?_); refine bE 1 #[.int .i64 a0_0, .int .i64 a0_1, .int .i64 a0_2, .slice A0_3 l0_3.length c0_3] 25 ?_; intro gb290 hg w13 hbox hb; have BK290 := Aside0.mk (hbox); have GE290 := gw hg (hz0 HB); have GW290 := GE290; replace HB := hbb (hz0 HB) hb; clear hb hbox hg) | ((with_reducible refine gate_dst (N := 2) rfl ?_); refine bE 2 #[.int .i64 0, .int .i64 0] 31 ?_; intro gb291 hg w14 hbox hb; have BK291 := Aside0.mk (hbox); have GE291 := gw hg (hzs HB); have GW291 := GE291; have NB290_291 := nl hg (bk BK290); have NB291_290 := ng hg (bk BK290); replace BK290 := bb (bk BK290) hb; replace HB := hbb (hzs HB) hb; clear hb hbox hg; have hnb15 := NB290_291.out; have hnc15 := NB291_290.out; obtain ⟨hcz16_0, hcz16_1, hcz16_2, hcz16_3, hfz16_0, hfz16_1, hfz16_2, hfz16_3⟩ := cz4 BK290) | ((with_reducible refine gate_callee (f := 21) rfl ?_); refine gL 5 Try.func21 #[.agg #[.int .i64 a0_0, .int .i64 a0_1, .int .i64 a0_2, .slice A0_3 l0_3.length c0_3]] ?_; (with_reducible refine (spec_ExprOk.calls k a0_0 a0_1 a0_2 _ _ l0_3 false _ ?side1 ?side2 A2.out).mono ?_); (case side1 => repeat (first | exact (Kd.C_below HR0_3.out HB.out) | (with_reducible refine Kd.C_alloc ?_ _) | (with_reducible refine Kd.C_drewN ?_ _) | (with_reducible refine Kd.C_drew ?_))); (case side2 => exact HC0_3.out); rintro e w17 ⟨rfl, hb⟩; refine ⟨_, rfl, ?_⟩; replace BK290 := bb (bk BK290) hb; replace BK291 := bb (bk BK291) hb; replace HB := hbb (hzs HB) hb; clear hb; obtain ⟨hcz18_0, hcz18_1, hfz18_0, hfz18_1⟩ := cz2 BK291))
  refine bodyPost_ret (results_ct rfl _ _ gb291 31 #[.int .i64 0, .int .i64 0] (0, 0) _ rfl (bkp BK291) Try.underlying31 rfl (by kernel_rfl)) rfl ?_
  exact ⟨by first | rfl | (simp [errW_none, errW_some] <;> rfl) | (simp [*, errW_none, errW_some] <;> rfl), hzs HB⟩


end Go.Proofs.Ytlodpfddimeffaa.M

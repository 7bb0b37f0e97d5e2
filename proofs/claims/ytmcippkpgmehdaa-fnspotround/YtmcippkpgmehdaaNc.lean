import Derived.Test.YtmcippkpgmehdaaM0
import Derived.Test.YtmcippkpgmehdaaNa
import Derived.Test.YtmcippkpgmehdaaNb
namespace Go.Proofs.Ytmcippkpgmehdaa.M
open Go.RowKit Go.Proofs.YtmcippkpgmehdaaW.PrintWords Go.Proofs.YtmcippkpgmehdaaW.PrintLast Go.Proofs.YtmcippkpgmehdaaW.PrintMore
attribute [local go_sem] max2_int min2_int max_two min_two max_three min_three max_four min_four
attribute [local go_sem high] eqA42 eqA29 eqA24
attribute [local go_sem] fld42_0 fld42_1 fld29_0 fld29_1 fld24_0 fld24_1 fld38_0 fld38_1 fld88_0 fld88_1 fld88_2 fld88_3 fld88_4
set_option linter.unusedVariables false
set_option linter.unusedSimpArgs false

/-! ### spec_l13Side: function 106 -/
def spec_l13Side.f (k : Nat) (a0 : Int) (a1 : Int) (a2 : Int) : Option (Int) := (spec_l12Sine.f k (wrap64 (2 * a2))).bind fun bt230 => ((spec_l12Sine.f k (wrap64 ((wrap64 (2 * a2)) + 64800000))).bind fun bt233 => ((spec_l1Down.f (wrap64 (a0 * bt233.1)) 1000000000).bind fun t236 => ((spec_l1Up.f (wrap64 (a1 * bt230.2)) 1000000000).bind fun t237 => ((spec_l1Up.f (wrap64 (a0 * bt233.2)) 1000000000).bind fun t238 => ((spec_l1Down.f (wrap64 (a1 * bt230.1)) 1000000000).bind fun t239 => (if (wrap64 (t236 - t237)) ≥ 0 then (some 1) else (if (wrap64 (t238 - t239)) ≤ 0 then (some (-1)) else (some 0))))))))
set_option maxHeartbeats 4000000 in
set_option maxRecDepth 100000 in
theorem spec_l13Side.calls (k : Nat) (a0 : Int) (a1 : Int) (a2 : Int) (r : Int) (w : World) (h : spec_l13Side.f k a0 a1 a2 = some r) :
    Calls Try.prog 106 #[.int .i64 a0, .int .i64 a1, .int .i64 a2] w fun e w' => e = .returned (.int .i64 r) ∧ Below w.heap.size w w' := by
  have hu := Try.underlying42
  have HB := Bl.refl w
  unfold spec_l13Side.f at h
  simp only [Option.bind_eq_some_iff] at h
  obtain ⟨⟨s1, s2⟩, h1, ⟨c1, c2⟩, h2, t1, h3, t2, h4, t3, h5, t4, h6, h⟩ := h
  have A1 := Aside0.mk h1
  have A2 := Aside0.mk h2
  have A3 := Aside0.mk h3
  have A4 := Aside0.mk h4
  have A5 := Aside0.mk h5
  have A6 := Aside0.mk h6
  have A7 := Aside0.mk h
  clear h1 h2 h3 h4 h5 h6 h
  go_enter Try.func106, Try.ntmps106
  go_wp2_with (first
    | (go_at_call 58; (with_reducible refine (spec_l12Sine.calls k (wrap64 (2 * a2)) s1 s2 _ A1.out).mono ?_); rintro e w1 ⟨rfl, hb⟩; replace HB := Bl.call hb HB)
    | (go_at_call 58; (with_reducible refine (spec_l12Sine.calls k (wrap64 ((wrap64 (2 * a2)) + 64800000)) c1 c2 _ A2.out).mono ?_); rintro e w2 ⟨rfl, hb2⟩; replace HB := Bl.call hb2 (HB.alloc _); obtain ⟨hc2, hf2⟩ := bcell hb2; have hz2 : w1.heap.size < w2.heap.size := (by have := hb2.size; simp at this; omega)))
  go_quiet (first
    | (go_at_call 70; (with_reducible refine (spec_l1Down.calls (wrap64 (a0 * c1)) 1000000000 t1 _ A3.out).mono ?_); rintro e w' ⟨rfl, ⟨nd, rfl⟩⟩; (try first | exact ⟨rfl, _, World.drewN_drewN _ _ _⟩ | exact ⟨rfl, _, Eq.trans (World.drewN_drewN _ _ _) (congrArg (World.drewN _) (Nat.add_assoc _ _ _))⟩))
    | (go_at_call 89; (with_reducible refine (spec_l1Up.calls (wrap64 (a1 * s2)) 1000000000 t2 _ A4.out).mono ?_); rintro e w' ⟨rfl, ⟨nd, rfl⟩⟩; (try first | exact ⟨rfl, _, World.drewN_drewN _ _ _⟩ | exact ⟨rfl, _, Eq.trans (World.drewN_drewN _ _ _) (congrArg (World.drewN _) (Nat.add_assoc _ _ _))⟩)))
  try go_wp2
  go_quiet (first
    | (go_at_call 89; (with_reducible refine (spec_l1Up.calls (wrap64 (a0 * c2)) 1000000000 t3 _ A5.out).mono ?_); rintro e w' ⟨rfl, ⟨nd, rfl⟩⟩; (try first | exact ⟨rfl, _, World.drewN_drewN _ _ _⟩ | exact ⟨rfl, _, Eq.trans (World.drewN_drewN _ _ _) (congrArg (World.drewN _) (Nat.add_assoc _ _ _))⟩))
    | (go_at_call 70; (with_reducible refine (spec_l1Down.calls (wrap64 (a1 * s1)) 1000000000 t4 _ A6.out).mono ?_); rintro e w' ⟨rfl, ⟨nd, rfl⟩⟩; (try first | exact ⟨rfl, _, World.drewN_drewN _ _ _⟩ | exact ⟨rfl, _, Eq.trans (World.drewN_drewN _ _ _) (congrArg (World.drewN _) (Nat.add_assoc _ _ _))⟩)))
  replace HB := (HB.alloc (.cells #[.int .i64 c1, .int .i64 c2] 42 (0, 0)))
  replace A7 := A7.out
  by_cases x1 : (wrap64 (t1 - t2)) ≥ 0
  · rw [if_pos x1] at A7
    obtain rfl := Option.some.inj A7
    have x1b : decide (0 ≤ (wrap64 (t1 - t2))) = true := decide_eq_true x1
    clear x1 A7
    go_wp2
    go_ret
    exact ⟨rfl, (Bl.drewN HB _).out⟩
  · rw [if_neg x1] at A7
    have x1b : decide (0 ≤ (wrap64 (t1 - t2))) = false := decide_eq_false x1
    clear x1
    by_cases x2 : (wrap64 (t3 - t4)) ≤ 0
    · rw [if_pos x2] at A7
      obtain rfl := Option.some.inj A7
      have x2b : decide ((wrap64 (t3 - t4)) ≤ 0) = true := decide_eq_true x2
      clear x2 A7
      go_wp2
      go_ret
      exact ⟨rfl, (Bl.drewN HB _).out⟩
    · rw [if_neg x2] at A7
      obtain rfl := Option.some.inj A7
      have x2b : decide ((wrap64 (t3 - t4)) ≤ 0) = false := decide_eq_false x2
      clear x2 A7
      go_wp2
      go_ret
      exact ⟨rfl, (Bl.drewN HB _).out⟩

/-! ### spec_l13Ask_less: function 102 -/
def spec_l13Ask_less.f (k : Nat) (a0_0 : Bool) (a0_1 : Int) (a0_2 : Int) (a0_3 : Int) (a0_4 : Bool) (a1 : Int) : Option (Bool) := if a0_0 = true then ((spec_l12Sine.f k (wrap64 (2 * a1))).bind fun bt241 => (if a0_4 = true then (some (decide (bt241.1 < a0_1))) else (some (decide (bt241.2 ≤ a0_1))))) else ((spec_l13Side.f k a0_2 a0_3 a1).bind fun t244 => (if t244 > 0 then (some true) else (if a0_4 = true then (some (t244 == 0)) else (some false))))
set_option maxHeartbeats 2000000 in
set_option maxRecDepth 100000 in
theorem spec_l13Ask_less.calls (k : Nat) (a0_0 : Bool) (a0_1 : Int) (a0_2 : Int) (a0_3 : Int) (a0_4 : Bool) (a1 : Int) (r : Bool) (w : World) (h : spec_l13Ask_less.f k a0_0 a0_1 a0_2 a0_3 a0_4 a1 = some r) :
    Calls Try.prog 102 #[.agg #[.bool a0_0, .int .i64 a0_1, .int .i64 a0_2, .int .i64 a0_3, .bool a0_4], .int .i64 a1] w fun e w' => e = .returned (.bool r) ∧ Below w.heap.size w w' := by
  have hu1 := Try.underlying88
  have hu2 := Try.underlying42
  have HB := Bl.refl w
  unfold spec_l13Ask_less.f at h
  cases a0_0 with
  | true =>
    simp only [if_true, Option.bind_eq_some_iff] at h
    obtain ⟨⟨x, y⟩, h1, h⟩ := h
    have A1 := Aside0.mk h1
    clear h1
    cases a0_4 with
    | true =>
      simp only [if_true, Option.some.injEq] at h
      subst h
      go_enter Try.func102, Try.ntmps102
      go_wp2_with (go_at_call 58; (with_reducible refine (spec_l12Sine.calls _ _ x y _ A1.out).mono ?_); rintro e w1 ⟨rfl, hb⟩; replace HB := Bl.call hb (HB.alloc _); obtain ⟨hc, hf⟩ := bcell hb; have hz : w.heap.size < w1.heap.size := (by have := hb.size; simp at this; omega))
      go_ret
      exact ⟨rfl, (HB.alloc _).out⟩
    | false =>
      simp only [if_neg (show ¬ (false = true) by decide), Option.some.injEq] at h
      subst h
      go_enter Try.func102, Try.ntmps102
      go_wp2_with (go_at_call 58; (with_reducible refine (spec_l12Sine.calls _ _ x y _ A1.out).mono ?_); rintro e w1 ⟨rfl, hb⟩; replace HB := Bl.call hb (HB.alloc _); obtain ⟨hc, hf⟩ := bcell hb; have hz : w.heap.size < w1.heap.size := (by have := hb.size; simp at this; omega))
      go_ret
      exact ⟨rfl, (HB.alloc _).out⟩
  | false =>
    simp only [if_neg (show ¬ (false = true) by decide), Option.bind_eq_some_iff] at h
    obtain ⟨t, h1, h⟩ := h
    have A1 := Aside0.mk h1
    clear h1
    by_cases c1 : t > 0
    · rw [if_pos c1] at h
      obtain rfl := Option.some.inj h
      have c1b : decide (0 < t) = true := decide_eq_true c1
      clear h c1
      go_enter Try.func102, Try.ntmps102
      go_wp2_with (go_at_call 106; (with_reducible refine (spec_l13Side.calls _ _ _ _ t _ A1.out).mono ?_); rintro e w1 ⟨rfl, hb⟩; replace HB := Bl.call hb (HB.alloc _); obtain ⟨hc, hf⟩ := bcell hb; have hz : w.heap.size < w1.heap.size := (by have := hb.size; simp at this; omega))
      go_ret
      exact ⟨rfl, HB.out⟩
    · rw [if_neg c1] at h
      have c1b : decide (0 < t) = false := decide_eq_false c1
      clear c1
      cases a0_4 with
      | true =>
        simp only [if_true, Option.some.injEq] at h
        subst h
        go_enter Try.func102, Try.ntmps102
        go_wp2_with (go_at_call 106; (with_reducible refine (spec_l13Side.calls _ _ _ _ t _ A1.out).mono ?_); rintro e w1 ⟨rfl, hb⟩; replace HB := Bl.call hb (HB.alloc _); obtain ⟨hc, hf⟩ := bcell hb; have hz : w.heap.size < w1.heap.size := (by have := hb.size; simp at this; omega))
        go_ret
        exact ⟨rfl, HB.out⟩
      | false =>
        simp only [if_neg (show ¬ (false = true) by decide), Option.some.injEq] at h
        subst h
        go_enter Try.func102, Try.ntmps102
        go_wp2_with (go_at_call 106; (with_reducible refine (spec_l13Side.calls _ _ _ _ t _ A1.out).mono ?_); rintro e w1 ⟨rfl, hb⟩; replace HB := Bl.call hb (HB.alloc _); obtain ⟨hc, hf⟩ := bcell hb; have hz : w.heap.size < w1.heap.size := (by have := hb.size; simp at this; omega))
        go_ret
        exact ⟨rfl, HB.out⟩

/-! ### spec_l13Ask_half: function 92 -/
def spec_l13Ask_half.l0 : Nat → Int → Int → Bool → Int → Int → Int → Bool → Option (Int × Int)
 | 0, _, _, _, _, _, _, _ => none
 | k + 1, x1, x2, x246000, x246001, x246002, x246003, x246004 => if (wrap64 (x2 - x1)) > 1 then ((spec_l1Down.f (wrap64 (x1 + x2)) 2).bind fun t247 => ((spec_l13Ask_less.f k x246000 x246001 x246002 x246003 x246004 t247).bind fun t248 => (if t248 = true then (spec_l13Ask_half.l0 k t247 x2 x246000 x246001 x246002 x246003 x246004) else (spec_l13Ask_half.l0 k x1 t247 x246000 x246001 x246002 x246003 x246004)))) else (some (x1, x2))
def spec_l13Ask_half.f (k : Nat) (a0_0 : Bool) (a0_1 : Int) (a0_2 : Int) (a0_3 : Int) (a0_4 : Bool) (a1 : Int) (a2 : Int) : Option (Int × Int) := spec_l13Ask_half.l0 k a1 a2 a0_0 a0_1 a0_2 a0_3 a0_4
/-- What stands in the loop: the question's cells in block p, the answer's in block p + 1. -/
structure spec_l13Ask_half.At (p : Nat) (w wr : World) (b0 : Bool) (n1 n2 n3 : Int) (b4 : Bool) : Prop where
  bl : Bl p w wr
  ask : wr.heap[p]? = some (.cells #[.bool b0, .int .i64 n1, .int .i64 n2, .int .i64 n3, .bool b4] 88 (0, 0))
  ans : wr.heap[p + 1]? = some (.cells #[.int .i64 0, .int .i64 0] 29 (0, 0))
theorem spec_l13Ask_half.At.drewN {p : Nat} {w wr : World} {b0 b4 : Bool} {n1 n2 n3 : Int} (h : spec_l13Ask_half.At p w wr b0 n1 n2 n3 b4) (n : Nat) : spec_l13Ask_half.At p w (wr.drewN n) b0 n1 n2 n3 b4 :=
  ⟨h.bl.drewN n, h.ask, h.ans⟩
theorem spec_l13Ask_half.At.call {w wr w1 : World} {b0 b4 : Bool} {n1 n2 n3 : Int} (h : spec_l13Ask_half.At w.heap.size w wr b0 n1 n2 n3 b4) (hb : Below wr.heap.size wr w1) : spec_l13Ask_half.At w.heap.size w w1 b0 n1 n2 n3 b4 :=
  ⟨Bl.call hb h.bl, blk_below h.ask hb, blk_below h.ans hb⟩
theorem spec_l13Ask_half.At.cells {p : Nat} {w wr : World} {b0 b4 : Bool} {n1 n2 n3 : Int} (h : spec_l13Ask_half.At p w wr b0 n1 n2 n3 b4) :
    (wr.cell? ⟨p, 0, none⟩ = some (.bool b0) ∧ wr.cell? ⟨p, 1, none⟩ = some (.int .i64 n1) ∧ wr.cell? ⟨p, 2, none⟩ = some (.int .i64 n2) ∧ wr.cell? ⟨p, 3, none⟩ = some (.int .i64 n3) ∧ wr.cell? ⟨p, 4, none⟩ = some (.bool b4)) ∧
    (wr.frozen? ⟨p, 0, none⟩ = false ∧ wr.frozen? ⟨p, 1, none⟩ = false ∧ wr.frozen? ⟨p, 2, none⟩ = false ∧ wr.frozen? ⟨p, 3, none⟩ = false ∧ wr.frozen? ⟨p, 4, none⟩ = false) ∧
    (wr.cell? ⟨p + 1, 0, none⟩ = some (.int .i64 0) ∧ wr.cell? ⟨p + 1, 1, none⟩ = some (.int .i64 0)) ∧ (wr.frozen? ⟨p + 1, 0, none⟩ = false ∧ wr.frozen? ⟨p + 1, 1, none⟩ = false) :=
  ⟨⟨(blk_cell h.ask 0).trans rfl, (blk_cell h.ask 1).trans rfl, (blk_cell h.ask 2).trans rfl, (blk_cell h.ask 3).trans rfl, (blk_cell h.ask 4).trans rfl⟩,
    ⟨blk_frozen h.ask 0, blk_frozen h.ask 1, blk_frozen h.ask 2, blk_frozen h.ask 3, blk_frozen h.ask 4⟩, ⟨(blk_cell h.ans 0).trans rfl, (blk_cell h.ans 1).trans rfl⟩, blk_frozen h.ans 0, blk_frozen h.ans 1⟩
set_option maxHeartbeats 4000000 in
set_option maxRecDepth 100000 in
theorem spec_l13Ask_half.calls (k : Nat) (a0_0 : Bool) (a0_1 : Int) (a0_2 : Int) (a0_3 : Int) (a0_4 : Bool) (a1 : Int) (a2 : Int) (r1 : Int) (r2 : Int) (w : World) (h : spec_l13Ask_half.f k a0_0 a0_1 a0_2 a0_3 a0_4 a1 a2 = some (r1, r2)) :
    Calls Try.prog 92 #[.agg #[.bool a0_0, .int .i64 a0_1, .int .i64 a0_2, .int .i64 a0_3, .bool a0_4], .int .i64 a1, .int .i64 a2] w fun e w' => e = .returned (.agg #[.int .i64 r1, .int .i64 r2]) ∧ Below w.heap.size w w' := by
  have hu1 := Try.underlying88
  have hu2 := Try.underlying29
  unfold spec_l13Ask_half.f at h
  have HA := Aside0.mk h
  clear h
  go_enter Try.func92, Try.ntmps92
  go_wp2
  go_loopg [1, 2] k (fun kq v1 v2 w' => ∃ (a b : Int), v1 = .int .i64 a ∧ v2 = .int .i64 b ∧ Aside0 (spec_l13Ask_half.l0 kq a b a0_0 a0_1 a0_2 a0_3 a0_4 = some (r1, r2)) ∧ Aside0 (kq ≤ k) ∧ Aside0 (spec_l13Ask_half.At w.heap.size w w' a0_0 a0_1 a0_2 a0_3 a0_4))
  case atStart => exact ⟨a1, a2, rfl, rfl, HA, ⟨Nat.le_refl _⟩, ⟨((Bl.refl w).alloc _).alloc _, blk_alloc (blk_new _ _) _, by simpa using blk_new (w.alloc _) _⟩⟩
  case round =>
    clear HA
    obtain ⟨a, b, rfl, rfl, HA, HK, HW⟩ := hrel
    cases gk with
    | zero => exact absurd HA.out (by simp [spec_l13Ask_half.l0])
    | succ k1 =>
      have H := HA.out
      clear HA
      simp only [spec_l13Ask_half.l0] at H
      obtain ⟨⟨g0, g1, g2, g3, g4⟩, ⟨f0, f1, f2, f3, f4⟩, ⟨u0, u1⟩, v0, v1⟩ := HW.out.cells
      by_cases c1 : wrap64 (b - a) > 1
      · rw [if_pos c1] at H
        have c1b : decide (1 < wrap64 (b - a)) = true := decide_eq_true c1
        clear c1
        simp only [Option.bind_eq_some_iff] at H
        obtain ⟨mid, hm, t, ht, H⟩ := H
        have A1 := Aside0.mk hm
        have A2 := Aside0.mk ht
        clear hm ht
        cases t with
        | true =>
          rw [if_pos rfl] at H
          have HH := Aside0.mk H
          clear H
          go_wp2_with (first
            | (go_at_call 70; (with_reducible refine (spec_l1Down.calls _ _ mid _ A1.out).mono ?_); rintro e w' ⟨rfl, ⟨m1, rfl⟩⟩; replace HW := Aside0.mk (HW.out.drewN m1))
            | (go_at_call 102; (with_reducible refine (spec_l13Ask_less.calls _ _ _ _ _ _ mid true _ A2.out).mono ?_); rintro e w2 ⟨rfl, hb⟩; replace HW := Aside0.mk (HW.out.call hb)))
          go_roundg k1
          case measure => have := HK.out; omega
          case rel => exact ⟨_, _, rfl, rfl, HH, ⟨by have := HK.out; omega⟩, HW⟩
        | false =>
          rw [if_neg (by decide)] at H
          have HH := Aside0.mk H
          clear H
          go_wp2_with (first
            | (go_at_call 70; (with_reducible refine (spec_l1Down.calls _ _ mid _ A1.out).mono ?_); rintro e w' ⟨rfl, ⟨m1, rfl⟩⟩; replace HW := Aside0.mk (HW.out.drewN m1))
            | (go_at_call 102; (with_reducible refine (spec_l13Ask_less.calls _ _ _ _ _ _ mid false _ A2.out).mono ?_); rintro e w2 ⟨rfl, hb⟩; replace HW := Aside0.mk (HW.out.call hb)))
          go_roundg k1
          case measure => have := HK.out; omega
          case rel => exact ⟨_, _, rfl, rfl, HH, ⟨by have := HK.out; omega⟩, HW⟩
      · rw [if_neg c1] at H
        have c1b : decide (1 < wrap64 (b - a)) = false := decide_eq_false c1
        clear c1
        simp only [Option.some.injEq, Prod.mk.injEq] at H
        obtain ⟨rfl, rfl⟩ := H
        go_wp2
        exact bodyPost_ret (results_cell_row rfl _ _ (w.heap.size + 1) 29 #[.int .i64 a, .int .i64 b] (0, 0) _ rfl (blk_put (blk_put HW.out.ans 0 _ rfl) 1 _ rfl) hu2 rfl (by kernel_rfl)) rfl ⟨rfl, (Bl.set (by simp) (Bl.set (by simp) HW.out.bl)).out⟩

end Go.Proofs.Ytmcippkpgmehdaa.M

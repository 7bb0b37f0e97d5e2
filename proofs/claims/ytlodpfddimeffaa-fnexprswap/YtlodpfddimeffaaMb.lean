import Derived.Test.YtlodpfddimeffaaM0
import Derived.Test.YtlodpfddimeffaaMa
namespace Go.Proofs.Ytlodpfddimeffaa.M
open Go.RowKit Go.Proofs.YtlodpfddimeffaaW.PrintWords Go.Proofs.YtlodpfddimeffaaW.PrintLast Go.Proofs.YtlodpfddimeffaaW.PrintMore
attribute [local go_sem] max2_int min2_int max_two min_two max_three min_three max_four min_four
attribute [local go_sem high] eqA31
attribute [local go_sem] fld31_0 fld31_1 fld25_0 fld25_1 fld25_2 fld25_3
set_option linter.unusedVariables false
set_option linter.unusedSimpArgs false

/-! ### impl_row: function 103 -/
def impl_row.l0 : Nat → Int → Int → Int → Bool → Int → Int → Int → Int → Option (Int × Int)
  | 0, _, _, _, _, _, _, _, _ => none
  | k + 1, n, lo, hi, b, sl, sh, tl, th =>
    if th = 0 then some (sl, sh) else
    if n < 40 then
      (impl_down.f (wrap64 (tl * lo)) 1000000000).bind fun a => (impl_down.f a (wrap64 (n * (wrap64 (n + 1))))).bind fun tl' =>
      (impl_up.f (wrap64 (th * hi)) 1000000000).bind fun c => (impl_up.f c (wrap64 (n * (wrap64 (n + 1))))).bind fun th' =>
      if th' = 1 then (if tl' = 0 then some (wrap64 (sl - 1), wrap64 (sh + 1)) else
        if b = true then impl_row.l0 k (wrap64 (n + 2)) lo hi (!b) (wrap64 (sl - th')) (wrap64 (sh - tl')) tl' th'
        else impl_row.l0 k (wrap64 (n + 2)) lo hi (!b) (wrap64 (sl + tl')) (wrap64 (sh + th')) tl' th') else
      if b = true then impl_row.l0 k (wrap64 (n + 2)) lo hi (!b) (wrap64 (sl - th')) (wrap64 (sh - tl')) tl' th'
      else impl_row.l0 k (wrap64 (n + 2)) lo hi (!b) (wrap64 (sl + tl')) (wrap64 (sh + th')) tl' th'
    else some (sl, sh)
def impl_row.f (k : Nat) (a0 : Int) (a1 : Int) (a2 : Int) : Option (Int × Int) :=
  (impl_down.f (wrap64 (a1 * a1)) 1000000000).bind fun lo => (impl_up.f (wrap64 (a1 * a1)) 1000000000).bind fun hi => impl_row.l0 k a2 lo hi true a0 a0 a0 a0
/-- The loop's world: the sum in block p + 1, the term in block p + 1 + 1, the answer's cells in block p. -/
def impl_row.At (p : Nat) (w wr : World) (sl sh tl th : Int) : Prop :=
  Below p w wr ∧ wr.heap.size = p + 3 ∧ (∃ x y, wr.heap[p]? = some (.cells #[.int .i64 x, .int .i64 y] 31 (0, 0))) ∧
  wr.heap[p + 1]? = some (.cells #[.int .i64 sl, .int .i64 sh] 31 (0, 0)) ∧ wr.heap[p + 1 + 1]? = some (.cells #[.int .i64 tl, .int .i64 th] 31 (0, 0))
theorem impl_row.At.cells {p : Nat} {w wr : World} {sl sh tl th : Int} (h : impl_row.At p w wr sl sh tl th) :
    (wr.cell? ⟨p + 1, 0, none⟩ = some (.int .i64 sl) ∧ wr.cell? ⟨p + 1, 1, none⟩ = some (.int .i64 sh) ∧ wr.cell? ⟨p + 1 + 1, 0, none⟩ = some (.int .i64 tl) ∧ wr.cell? ⟨p + 1 + 1, 1, none⟩ = some (.int .i64 th)) ∧
    (wr.frozen? ⟨p + 1, 0, none⟩ = false ∧ wr.frozen? ⟨p + 1, 1, none⟩ = false ∧ wr.frozen? ⟨p + 1 + 1, 0, none⟩ = false ∧ wr.frozen? ⟨p + 1 + 1, 1, none⟩ = false ∧ wr.frozen? ⟨p, 0, none⟩ = false ∧ wr.frozen? ⟨p, 1, none⟩ = false) ∧
    ∃ x y, wr.cell? ⟨p, 0, none⟩ = some (.int .i64 x) ∧ wr.cell? ⟨p, 1, none⟩ = some (.int .i64 y) := by
  obtain ⟨_, _, ⟨x, y, h0⟩, h1, h2⟩ := h
  exact ⟨⟨(blk_cell h1 0).trans rfl, (blk_cell h1 1).trans rfl, (blk_cell h2 0).trans rfl, (blk_cell h2 1).trans rfl⟩,
    ⟨blk_frozen h1 0, blk_frozen h1 1, blk_frozen h2 0, blk_frozen h2 1, blk_frozen h0 0, blk_frozen h0 1⟩, x, y, (blk_cell h0 0).trans rfl, (blk_cell h0 1).trans rfl⟩
theorem impl_row.At.drewN {p : Nat} {w wr : World} {sl sh tl th : Int} (h : impl_row.At p w wr sl sh tl th) (n : Nat) : impl_row.At p w (wr.drewN n) sl sh tl th :=
  ⟨pw_below_drewN h.1 n, h.2.1, h.2.2.1, h.2.2.2.1, h.2.2.2.2⟩
theorem impl_row.At.drew {p : Nat} {w wr : World} {sl sh tl th : Int} (h : impl_row.At p w wr sl sh tl th) : impl_row.At p w wr.drew sl sh tl th :=
  ⟨h.1.drew, h.2.1, h.2.2.1, h.2.2.2.1, h.2.2.2.2⟩
theorem impl_row.At.tl {p : Nat} {w wr : World} {sl sh tl th : Int} (h : impl_row.At p w wr sl sh tl th) (v : Int) : impl_row.At p w (wr.setCell ⟨p + 1 + 1, 0, none⟩ (.int .i64 v)) sl sh v th := by
  obtain ⟨hb, hs, ⟨x, y, h0⟩, h1, h2⟩ := h
  exact ⟨hb.setCell (by simp <;> omega) _, by simpa [World.setCell] using hs, ⟨x, y, blk_far h0 (by simp <;> omega) _⟩, blk_far h1 (by simp) _, blk_put h2 0 _ rfl⟩
theorem impl_row.At.th {p : Nat} {w wr : World} {sl sh tl th : Int} (h : impl_row.At p w wr sl sh tl th) (v : Int) : impl_row.At p w (wr.setCell ⟨p + 1 + 1, 1, none⟩ (.int .i64 v)) sl sh tl v := by
  obtain ⟨hb, hs, ⟨x, y, h0⟩, h1, h2⟩ := h
  exact ⟨hb.setCell (by simp <;> omega) _, by simpa [World.setCell] using hs, ⟨x, y, blk_far h0 (by simp <;> omega) _⟩, blk_far h1 (by simp) _, blk_put h2 1 _ rfl⟩
theorem impl_row.At.sum {p : Nat} {w wr : World} {sl sh tl th : Int} (h : impl_row.At p w wr sl sh tl th) (u v : Int) : impl_row.At p w ((wr.setCell ⟨p + 1, 0, none⟩ (.int .i64 u)).setCell ⟨p + 1, 1, none⟩ (.int .i64 v)) u v tl th := by
  obtain ⟨hb, hs, ⟨x, y, h0⟩, h1, h2⟩ := h
  exact ⟨(hb.setCell (by simp) _).setCell (by simp) _, by simpa [World.setCell] using hs, ⟨x, y, blk_far (blk_far h0 (by simp) _) (by simp) _⟩, blk_put (blk_put h1 0 _ rfl) 1 _ rfl, blk_far (blk_far h2 (by simp) _) (by simp) _⟩
theorem impl_row.At.res {p : Nat} {w wr : World} {sl sh tl th : Int} (h : impl_row.At p w wr sl sh tl th) (u v : Int) :
    ((wr.setCell ⟨p, 0, none⟩ (.int .i64 u)).setCell ⟨p, 1, none⟩ (.int .i64 v)).heap[p]? = some (.cells #[.int .i64 u, .int .i64 v] 31 (0, 0)) ∧ Below p w ((wr.setCell ⟨p, 0, none⟩ (.int .i64 u)).setCell ⟨p, 1, none⟩ (.int .i64 v)) := by
  obtain ⟨hb, hs, ⟨x, y, h0⟩, h1, h2⟩ := h
  exact ⟨blk_put (blk_put h0 0 _ rfl) 1 _ rfl, (hb.setCell (by simp) _).setCell (by simp) _⟩
set_option maxHeartbeats 4000000 in
set_option maxRecDepth 100000 in
theorem impl_row.calls (k : Nat) (a0 : Int) (a1 : Int) (a2 : Int) (r1 : Int) (r2 : Int) (w : World) (h : impl_row.f k a0 a1 a2 = some (r1, r2)) :
    Calls Try.prog 103 #[.int .i64 a0, .int .i64 a1, .int .i64 a2] w fun e w' => e = .returned (.agg #[.int .i64 r1, .int .i64 r2]) ∧ Below w.heap.size w w' := by
  have hu := Try.underlying31
  simp only [impl_row.f, Option.bind_eq_some_iff] at h
  obtain ⟨lo, hlo, hi, hhi, h⟩ := h
  have A1 := Aside0.mk hlo
  have A2 := Aside0.mk hhi
  have HA := Aside0.mk h
  clear hlo hhi h
  go_enter Try.func103, Try.ntmps103
  go_wp2_with (first
    | (go_at_call 72; (with_reducible refine (impl_down.calls _ _ lo _ A1.out).mono ?_); rintro e w' ⟨rfl, ⟨n1, rfl⟩⟩)
    | (go_at_call 73; (with_reducible refine (impl_up.calls _ _ hi _ A2.out).mono ?_); rintro e w' ⟨rfl, ⟨n2, rfl⟩⟩))
  go_loopg [2, 11] k (fun kq v2 v11 w' => ∃ (n : Int) (b : Bool) (sl sh tl th : Int), v2 = .int .i64 n ∧ v11 = .bool b ∧ Aside0 (impl_row.l0 kq n lo hi b sl sh tl th = some (r1, r2)) ∧ Aside0 (kq ≤ k) ∧ Aside0 (impl_row.At w.heap.size w w' sl sh tl th))
  case atStart =>
    exact ⟨a2, true, a0, a0, a0, a0, rfl, rfl, HA, ⟨Nat.le_refl _⟩, ⟨pw_below_drewN ((((Below.refl _ _).alloc (Nat.le_refl _) _).alloc (by simp) _).alloc (by simp; omega) _) _, by simp, ⟨0, 0, blk_alloc (blk_alloc (blk_new _ _) _) _⟩, blk_alloc (by simpa using blk_new (w.alloc _) _) _, by simpa using blk_new ((w.alloc _).alloc _) _⟩⟩
  case round =>
    clear HA A1 A2
    obtain ⟨n, b, sl, sh, tl, th, rfl, rfl, HA, HK, HW⟩ := hrel
    cases gk with
    | zero => exact absurd HA.out (by simp [impl_row.l0])
    | succ k1 =>
      have H := HA.out
      clear HA
      simp only [impl_row.l0] at H
      obtain ⟨⟨g1, g2, g3, g4⟩, ⟨f1, f2, f3, f4, f5, f6⟩, xx, yy, g5, g6⟩ := HW.out.cells
      by_cases c1 : th = 0
      · subst c1
        simp only [if_true, Option.some.injEq, Prod.mk.injEq] at H
        obtain ⟨rfl, rfl⟩ := H
        go_wp2
        obtain ⟨q1, q2⟩ := HW.out.res sl sh
        exact bodyPost_ret (results_cell_row rfl _ _ w.heap.size 31 #[.int .i64 sl, .int .i64 sh] (0, 0) _ rfl q1 hu rfl (by kernel_rfl)) rfl ⟨rfl, q2⟩
      · rw [if_neg c1] at H
        have c1b : (th != 0) = true := by simp [c1]
        clear c1
        by_cases c2 : n < 40
        · rw [if_pos c2] at H
          have c2b : decide (n < 40) = true := decide_eq_true c2
          clear c2
          simp only [Option.bind_eq_some_iff] at H
          obtain ⟨a, hA1, tl', hA2, c, hA3, th', hA4, H⟩ := H
          have A1 := Aside0.mk hA1
          have A2 := Aside0.mk hA2
          have A3 := Aside0.mk hA3
          have A4 := Aside0.mk hA4
          clear hA1 hA2 hA3 hA4
          by_cases c3 : th' = 1
          · rw [if_pos c3] at H
            have c3b : (th' == 1) = true := by simpa using c3
            clear c3
            by_cases c4 : tl' = 0
            · rw [if_pos c4] at H
              have c4b : (tl' == 0) = true := by simpa using c4
              clear c4
              simp only [Option.some.injEq, Prod.mk.injEq] at H
              obtain ⟨rfl, rfl⟩ := H
              go_wp2_with (first
              | (go_at_call 72; (with_reducible refine (impl_down.calls _ _ a _ A1.out).mono ?_); rintro e w' ⟨rfl, ⟨m1, rfl⟩⟩)
              | (go_at_call 72; (with_reducible refine (impl_down.calls _ _ tl' _ A2.out).mono ?_); rintro e w' ⟨rfl, ⟨m2, rfl⟩⟩)
              | (go_at_call 73; (with_reducible refine (impl_up.calls _ _ c _ A3.out).mono ?_); rintro e w' ⟨rfl, ⟨m3, rfl⟩⟩)
              | (go_at_call 73; (with_reducible refine (impl_up.calls _ _ th' _ A4.out).mono ?_); rintro e w' ⟨rfl, ⟨m4, rfl⟩⟩))
              obtain ⟨q1, q2⟩ := (((((HW.out.drewN (m1 + m2)).tl tl').drewN (m3 + m4)).th th')).res (wrap64 (sl - 1)) (wrap64 (sh + 1))
              exact bodyPost_ret (results_cell_row rfl _ _ w.heap.size 31 #[.int .i64 (wrap64 (sl - 1)), .int .i64 (wrap64 (sh + 1))] (0, 0) _ rfl q1 hu rfl (by kernel_rfl)) rfl ⟨rfl, q2⟩
            · rw [if_neg c4] at H
              have c4b : (tl' == 0) = false := by simpa using c4
              clear c4
              cases b with
              | true =>
                rw [if_pos rfl] at H
                have HH := Aside0.mk H
                clear H
                go_wp2_with (first
                              | (go_at_call 72; (with_reducible refine (impl_down.calls _ _ a _ A1.out).mono ?_); rintro e w' ⟨rfl, ⟨m1, rfl⟩⟩)
                              | (go_at_call 72; (with_reducible refine (impl_down.calls _ _ tl' _ A2.out).mono ?_); rintro e w' ⟨rfl, ⟨m2, rfl⟩⟩)
                              | (go_at_call 73; (with_reducible refine (impl_up.calls _ _ c _ A3.out).mono ?_); rintro e w' ⟨rfl, ⟨m3, rfl⟩⟩)
                              | (go_at_call 73; (with_reducible refine (impl_up.calls _ _ th' _ A4.out).mono ?_); rintro e w' ⟨rfl, ⟨m4, rfl⟩⟩))
                go_roundg k1
                case measure => have := HK.out; omega
                case rel => exact ⟨_, _, _, _, tl', th', rfl, by first | rfl | simp, HH, ⟨by have := HK.out; omega⟩, ⟨(((((HW.out.drewN _).tl tl').drewN _).th th').sum _ _)⟩⟩
                
              | false =>
                rw [if_neg (by decide)] at H
                have HH := Aside0.mk H
                clear H
                go_wp2_with (first
                              | (go_at_call 72; (with_reducible refine (impl_down.calls _ _ a _ A1.out).mono ?_); rintro e w' ⟨rfl, ⟨m1, rfl⟩⟩)
                              | (go_at_call 72; (with_reducible refine (impl_down.calls _ _ tl' _ A2.out).mono ?_); rintro e w' ⟨rfl, ⟨m2, rfl⟩⟩)
                              | (go_at_call 73; (with_reducible refine (impl_up.calls _ _ c _ A3.out).mono ?_); rintro e w' ⟨rfl, ⟨m3, rfl⟩⟩)
                              | (go_at_call 73; (with_reducible refine (impl_up.calls _ _ th' _ A4.out).mono ?_); rintro e w' ⟨rfl, ⟨m4, rfl⟩⟩))
                go_roundg k1
                case measure => have := HK.out; omega
                case rel => exact ⟨_, _, _, _, tl', th', rfl, by first | rfl | simp, HH, ⟨by have := HK.out; omega⟩, ⟨(((((HW.out.drewN _).tl tl').drewN _).th th').sum _ _)⟩⟩
                
          · rw [if_neg c3] at H
            have c3b : (th' == 1) = false := by simpa using c3
            clear c3
            cases b with
            | true =>
              rw [if_pos rfl] at H
              have HH := Aside0.mk H
              clear H
              go_wp2_with (first
                            | (go_at_call 72; (with_reducible refine (impl_down.calls _ _ a _ A1.out).mono ?_); rintro e w' ⟨rfl, ⟨m1, rfl⟩⟩)
                            | (go_at_call 72; (with_reducible refine (impl_down.calls _ _ tl' _ A2.out).mono ?_); rintro e w' ⟨rfl, ⟨m2, rfl⟩⟩)
                            | (go_at_call 73; (with_reducible refine (impl_up.calls _ _ c _ A3.out).mono ?_); rintro e w' ⟨rfl, ⟨m3, rfl⟩⟩)
                            | (go_at_call 73; (with_reducible refine (impl_up.calls _ _ th' _ A4.out).mono ?_); rintro e w' ⟨rfl, ⟨m4, rfl⟩⟩))
              go_roundg k1
              case measure => have := HK.out; omega
              case rel => exact ⟨_, _, _, _, tl', th', rfl, by first | rfl | simp, HH, ⟨by have := HK.out; omega⟩, ⟨(((((HW.out.drewN _).tl tl').drewN _).th th').sum _ _)⟩⟩
              
            | false =>
              rw [if_neg (by decide)] at H
              have HH := Aside0.mk H
              clear H
              go_wp2_with (first
                            | (go_at_call 72; (with_reducible refine (impl_down.calls _ _ a _ A1.out).mono ?_); rintro e w' ⟨rfl, ⟨m1, rfl⟩⟩)
                            | (go_at_call 72; (with_reducible refine (impl_down.calls _ _ tl' _ A2.out).mono ?_); rintro e w' ⟨rfl, ⟨m2, rfl⟩⟩)
                            | (go_at_call 73; (with_reducible refine (impl_up.calls _ _ c _ A3.out).mono ?_); rintro e w' ⟨rfl, ⟨m3, rfl⟩⟩)
                            | (go_at_call 73; (with_reducible refine (impl_up.calls _ _ th' _ A4.out).mono ?_); rintro e w' ⟨rfl, ⟨m4, rfl⟩⟩))
              go_roundg k1
              case measure => have := HK.out; omega
              case rel => exact ⟨_, _, _, _, tl', th', rfl, by first | rfl | simp, HH, ⟨by have := HK.out; omega⟩, ⟨(((((HW.out.drewN _).tl tl').drewN _).th th').sum _ _)⟩⟩
              
        · rw [if_neg c2] at H
          have c2b : decide (n < 40) = false := decide_eq_false c2
          clear c2
          simp only [Option.some.injEq, Prod.mk.injEq] at H
          obtain ⟨rfl, rfl⟩ := H
          go_wp2
          obtain ⟨q1, q2⟩ := HW.out.res sl sh
          exact bodyPost_ret (results_cell_row rfl _ _ w.heap.size 31 #[.int .i64 sl, .int .i64 sh] (0, 0) _ rfl q1 hu rfl (by kernel_rfl)) rfl ⟨rfl, q2⟩

end Go.Proofs.Ytlodpfddimeffaa.M

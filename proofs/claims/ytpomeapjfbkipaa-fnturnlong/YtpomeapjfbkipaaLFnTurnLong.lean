import Derived.Test.YtpomeapjfbkipaaR1
namespace Go.Proofs.Ytpomeapjfbkipaa.M
open Go.RowKit Go.Proofs.YtpomeapjfbkipaaW.PrintWords Go.Proofs.YtpomeapjfbkipaaW.PrintLast Go.Proofs.YtpomeapjfbkipaaW.PrintMore
attribute [local go_sem] max2_int min2_int max_two min_two max_three min_three max_four min_four
attribute [local go_sem high] eqA31
attribute [local go_sem] fld31_0 fld31_1 fld25_0 fld25_1 fld23_0 fld23_1
set_option linter.unusedVariables false
set_option linter.unusedSimpArgs false
theorem turnLong_in {k : Nat} {u r : Int} (hk : 50 ≤ k) (h1 : -500000000 ≤ u) (h2 : u ≤ 500000000) (h3 : -500000000 ≤ r) (h4 : r ≤ 500000000) :
    ∃ lo, IsRoot (u * u + r * r) lo ∧ impl_TurnLong.f k u r = some (lo, ceilRoot (u * u + r * r) lo, true) ∧ spec_TurnLong.f k u r = some (lo, ceilRoot (u * u + r * r) lo, true) := by
  have hu := sq_bd (a := u) (A := 500000000) (by omega) (by omega)
  have hr := sq_bd (a := r) (A := 500000000) (by omega) (by omega)
  obtain ⟨k, rfl⟩ : ∃ m, k = m + 1 := ⟨k - 1, by omega⟩
  obtain ⟨lo, p1, p2, p3, p4, p5⟩ := roots (u * u + r * r) (by omega) (by omega) (k + 1) (by omega)
  obtain ⟨lo', q1, q2, q3, q4, q5⟩ := roots (u * u + r * r) (by omega) (by omega) k (by omega)
  obtain rfl := p1.unique q1
  refine ⟨lo, p1, ?_, ?_⟩
  · simp only [impl_TurnLong.f, impl_TurnLong.j0, impl_isHalf.f, impl_in.f]
    rw [w64 (x := u * u) (by omega) (by omega), w64 (x := r * r) (by omega) (by omega), w64 (x := u * u + r * r) (by omega) (by omega), q2, q4]
    simp [h1, h2, h3, h4]
  · simp only [spec_TurnLong.f, spec_l22Way.f, spec_l6In.f]
    rw [w64 (x := u * u) (by omega) (by omega), w64 (x := r * r) (by omega) (by omega), w64 (x := u * u + r * r) (by omega) (by omega), p3, p5]
    simp [h1, h2, h3, h4]
theorem turnLong_out {k : Nat} {u r : Int} (hk : 50 ≤ k) (h : ¬ (-500000000 ≤ u ∧ u ≤ 500000000 ∧ -500000000 ≤ r ∧ r ≤ 500000000)) :
    impl_TurnLong.f k u r = some (0, 0, false) ∧ spec_TurnLong.f k u r = some (0, 0, false) := by
  obtain ⟨k, rfl⟩ : ∃ m, k = m + 1 := ⟨k - 1, by omega⟩
  constructor
  · simp only [impl_TurnLong.f, impl_TurnLong.j0, impl_isHalf.f, impl_in.f]
    by_cases a1 : -500000000 ≤ u
    · by_cases a2 : u ≤ 500000000
      · by_cases a3 : -500000000 ≤ r
        · have a4 : ¬ r ≤ 500000000 := by omega
          simp [a1, a2, a3, a4]
        · simp [a1, a2, a3]
      · simp [a1, a2]
    · simp [a1]
  · simp only [spec_TurnLong.f, spec_l22Way.f, spec_l6In.f]
    by_cases a1 : -500000000 ≤ u
    · by_cases a2 : u ≤ 500000000
      · by_cases a3 : -500000000 ≤ r
        · have a4 : ¬ r ≤ 500000000 := by omega
          simp [a1, a2, a3, a4]
        · simp [a1, a2, a3]
      · simp [a1, a2]
    · simp [a1]
section
variable (k : Nat) (A0 : Option Addr) (c0 : Nat) (l0 : List Int) (w : World)
set_option maxHeartbeats 1000000 in
set_option maxRecDepth 100000 in
theorem FnTurnLong_big (h : (l0.length : Int) > 1048576) :
    Calls Try.prog 6 #[.slice A0 l0.length c0] w fun e w' => e = .returned (.bool true) ∧ Below w.heap.size w w' := by
  have c2b0 : decide (1048576 < (l0.length : Int)) = true := decide_eq_true h
  have c2b1 : decide (1048576 < l0.length) = true := decide_eq_true (by omega)
  clear h
  go_enter Try.func6, Try.ntmps6
  go_wp2
  go_ret
  exact ⟨rfl, Below.refl _ _⟩
set_option maxHeartbeats 1000000 in
set_option maxRecDepth 100000 in
theorem FnTurnLong_bad (hr0 : Kd.C (Kd.int .u8) w A0 l0.length l0) (hc0 : l0.length ≤ c0) (h : ¬ (l0.length : Int) > 1048576)
    (u r : Int) (hd : spec_DrawTurnLong.f k l0 = some (u, r)) (hs : spec_TurnLong.f k u r = some (0, 0, false)) (hi : impl_TurnLong.f k u r = some (0, 0, false)) :
    Calls Try.prog 6 #[.slice A0 l0.length c0] w fun e w' => e = .returned (.bool true) ∧ Below w.heap.size w w' := by
  have hu31 := Try.underlying31
  have HR := Aside0.mk hr0
  have HC := Aside0.mk hc0
  have HD := Aside0.mk hd
  have HS := Aside0.mk hs
  have HI := Aside0.mk hi
  clear hr0 hc0 hd hs hi
  have c2b0 : decide (1048576 < (l0.length : Int)) = false := decide_eq_false h
  have c2b1 : decide (1048576 < l0.length) = false := decide_eq_false (by omega)
  clear h
  have HB := Bl.refl w
  go_enter Try.func6, Try.ntmps6
  go_wp2_with (first
    | (go_at_call 15; (with_reducible refine (spec_DrawTurnLong.calls k _ _ l0 u r _ HR.out HC.out HD.out).mono ?_); rintro e w1 ⟨rfl, hb⟩; replace HB := Bl.call hb HB)
    | (go_at_call 12; (with_reducible refine (spec_TurnLong.calls k u r 0 0 false _ HS.out).mono ?_); rintro e w2 ⟨rfl, hb2⟩; replace HB := Bl.call hb2 HB)
    | (go_at_call 13; (with_reducible refine (impl_TurnLong.calls k u r 0 0 false _ HI.out).mono ?_); rintro e w3 ⟨rfl, hb3⟩; replace HB := Bl.call hb3 (HB.alloc _); obtain ⟨hc3, hf3⟩ := bcell hb3; have hz3 : w2.heap.size < w3.heap.size := (by have := hb3.size; simp at this; omega)))
  go_ret
  exact ⟨rfl, (HB.alloc _).out⟩
set_option maxHeartbeats 2000000 in
set_option maxRecDepth 100000 in
theorem FnTurnLong_ok (hr0 : Kd.C (Kd.int .u8) w A0 l0.length l0) (hc0 : l0.length ≤ c0) (h : ¬ (l0.length : Int) > 1048576)
    (u r a b : Int) (hd : spec_DrawTurnLong.f k l0 = some (u, r)) (hs : spec_TurnLong.f k u r = some (a, b, true)) (hi : impl_TurnLong.f k u r = some (a, b, true))
    (ht : impl_TurnLong.f k (wrap64 (-r)) u = some (a, b, true)) (t1 : wrap64 (a * a) ≤ wrap64 (wrap64 (u * u) + wrap64 (r * r))) (t2 : wrap64 (wrap64 (u * u) + wrap64 (r * r)) ≤ wrap64 (b * b)) (t3 : wrap64 (b - a) ≤ 1) :
    Calls Try.prog 6 #[.slice A0 l0.length c0] w fun e w' => e = .returned (.bool true) ∧ Below w.heap.size w w' := by
  have hu31 := Try.underlying31
  have HR := Aside0.mk hr0
  have HC := Aside0.mk hc0
  have HD := Aside0.mk hd
  have HS := Aside0.mk hs
  have HI := Aside0.mk hi
  have HT := Aside0.mk ht
  have t1b := decide_eq_true t1
  have t2b := decide_eq_true t2
  have t3b := decide_eq_true t3
  clear hr0 hc0 hd hs hi ht t1 t2 t3
  have c2b0 : decide (1048576 < (l0.length : Int)) = false := decide_eq_false h
  have c2b1 : decide (1048576 < l0.length) = false := decide_eq_false (by omega)
  clear h
  have HB := Bl.refl w
  go_enter Try.func6, Try.ntmps6
  go_wp2_with (first
    | (go_at_call 15; (with_reducible refine (spec_DrawTurnLong.calls k _ _ l0 u r _ HR.out HC.out HD.out).mono ?_); rintro e w1 ⟨rfl, hb⟩; replace HB := Bl.call hb HB)
    | (go_at_call 12; (with_reducible refine (spec_TurnLong.calls k u r a b true _ HS.out).mono ?_); rintro e w2 ⟨rfl, hb2⟩; replace HB := Bl.call hb2 HB)
    | (go_at_call 13; (with_reducible refine (impl_TurnLong.calls k u r a b true _ HI.out).mono ?_); rintro e w3 ⟨rfl, hb3⟩; replace HB := Bl.call hb3 (HB.alloc _); obtain ⟨hc3, hf3⟩ := bcell hb3; have hz3 : w2.heap.size < w3.heap.size := (by have := hb3.size; simp at this; omega))
    | (go_at_call 13; (with_reducible refine (impl_TurnLong.calls k (wrap64 (-r)) u a b true _ HT.out).mono ?_); rintro e w4 ⟨rfl, hb4⟩; replace HB := Bl.call hb4 (HB.alloc _); obtain ⟨hc4, hf4⟩ := bcell hb4; have hz4 : w3.heap.size < w4.heap.size := (by have := hb4.size; simp at this; omega); have hz5 : w2.heap.size < w4.heap.size := (by omega)))
  go_ret
  exact ⟨rfl, (HB.alloc _).out⟩
end
theorem drawTurnLong_tells {l : List Int} (hl : Bytes l) {k : Nat} (hk : 20 ≤ k) : ∃ u r, spec_DrawTurnLong.f k l = some (u, r) := by
  unfold spec_DrawTurnLong.f
  obtain ⟨b, h1, h2, h3⟩ := open_tells hl
  rw [h1]; simp only [Option.bind_some]
  obtain ⟨u, p, q1, q2, q3, q4, q5⟩ := big_tells h2 h3 (show (0 : Int) ≤ 0 by omega) (by omega) (show (3 : Int) ≤ 500000000 by omega) (by omega) (k := k) (by omega)
  rw [q1]; simp only [Option.bind_some]
  obtain ⟨v, r1, r2⟩ := pick_tells h2 h3 (show 0 ≤ p by omega) (by omega) (show (20 : Int) < 1073741824 by omega) (k := k) (by omega)
  rw [r1]; simp only [Option.bind_some]
  obtain ⟨u', p', s1, s2, s3, s4, s5⟩ := big_tells h2 h3 (show 0 ≤ p + 1 by omega) (by omega) (show (3 : Int) ≤ 500000000 by omega) (by omega) (k := k) (by omega)
  rw [s1]; simp only [Option.bind_some]
  split <;> exact ⟨_, _, rfl⟩
theorem FnTurnLong_true (A0 : Option Addr) (c0 : Nat) (l0 : List Int) (w : World) (hr0 : Kd.C (Kd.int .u8) w A0 l0.length l0) (hc0 : l0.length ≤ c0) (hw0 : ∀ x ∈ l0, (Lit.int .u8 x).wf = true) :
    Calls Try.prog 6 #[.slice A0 l0.length c0] w fun e w' => e = .returned (.bool true) ∧ Below w.heap.size w w' := by
  by_cases h : (l0.length : Int) > 1048576
  · exact FnTurnLong_big A0 c0 l0 w h
  obtain ⟨u, r, hd⟩ := drawTurnLong_tells (bytes_of hw0) (k := 60) (by omega)
  by_cases hin : -500000000 ≤ u ∧ u ≤ 500000000 ∧ -500000000 ≤ r ∧ r ≤ 500000000
  · obtain ⟨i1, i2, i3, i4⟩ := hin
    obtain ⟨lo, p1, p2, p3⟩ := turnLong_in (k := 60) (by omega) i1 i2 i3 i4
    obtain ⟨lo', q1, q2, q3⟩ := turnLong_in (k := 60) (u := -r) (r := u) (by omega) (by omega) (by omega) i1 i2
    have e : -r * -r + u * u = u * u + r * r := by grind
    rw [e] at q1 q2
    obtain rfl := p1.unique q1
    have hu := sq_bd (a := u) (A := 500000000) (by omega) (by omega)
    have hr := sq_bd (a := r) (A := 500000000) (by omega) (by omega)
    have hb := p1.le (B := 1000000000) (by omega) (by omega)
    have h0 := p1.1
    have hs := sq_bd (a := lo) (A := 1000000000) (by omega) (by omega)
    have en : wrap64 (wrap64 (u * u) + wrap64 (r * r)) = u * u + r * r := by
      rw [w64 (x := u * u) (by omega) (by omega), w64 (x := r * r) (by omega) (by omega)]; exact w64 (by omega) (by omega)
    have hc : ceilRoot (u * u + r * r) lo = lo ∧ u * u + r * r ≤ lo * lo ∨ ceilRoot (u * u + r * r) lo = lo + 1 := by
      unfold ceilRoot; split <;> omega
    have e2 : (lo + 1) * (lo + 1) = lo * lo + 2 * lo + 1 := by grind
    have h3 := p1.2.2
    refine FnTurnLong_ok 60 A0 c0 l0 w hr0 hc0 h u r _ _ hd p3 p2 (by rw [w64 (x := -r) (by omega) (by omega)]; exact q2) ?_ ?_ ?_
    · rw [en, w64 (x := lo * lo) (by omega) (by omega)]; exact p1.2.1
    · rw [en]
      rcases hc with ⟨hc, h4⟩ | hc <;> rw [hc]
      · rw [w64 (x := lo * lo) (by omega) (by omega)]; exact h4
      · rw [w64 (x := (lo + 1) * (lo + 1)) (by omega) (by omega)]; omega
    · rcases hc with ⟨hc, h4⟩ | hc <;> rw [hc]
      · rw [w64 (by omega) (by omega)]; omega
      · rw [w64 (by omega) (by omega)]; omega
  · obtain ⟨p1, p2⟩ := turnLong_out (k := 60) (by omega) hin
    exact FnTurnLong_bad 60 A0 c0 l0 w hr0 hc0 h u r hd p2 p1

end Go.Proofs.Ytpomeapjfbkipaa.M

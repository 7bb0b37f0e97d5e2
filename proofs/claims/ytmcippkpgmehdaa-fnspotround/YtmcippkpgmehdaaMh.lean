import Derived.Test.YtmcippkpgmehdaaM0
import Derived.Test.YtmcippkpgmehdaaMa
import Derived.Test.YtmcippkpgmehdaaMc
namespace Go.Proofs.Ytmcippkpgmehdaa.M
open Go.RowKit Go.Proofs.YtmcippkpgmehdaaW.PrintWords Go.Proofs.YtmcippkpgmehdaaW.PrintLast Go.Proofs.YtmcippkpgmehdaaW.PrintMore
attribute [local go_sem] max2_int min2_int max_two min_two max_three min_three max_four min_four
attribute [local go_sem high] eqA42 eqA29 eqA24
attribute [local go_sem] fld42_0 fld42_1 fld29_0 fld29_1 fld24_0 fld24_1 fld38_0 fld38_1 fld88_0 fld88_1 fld88_2 fld88_3 fld88_4
set_option linter.unusedVariables false
set_option linter.unusedSimpArgs false

/-! ### halving: function 80, at each of its questions -/
def impl_halve.l0 (q : Int → Option Bool) : Nat → Int → Int → Option (Int × Int)
  | 0, _, _ => none
  | k + 1, lo, hi => if wrap64 (hi - lo) > 1 then ((impl_down.f (wrap64 (lo + hi)) 2).bind fun mid => (q mid).bind fun b => if b = true then impl_halve.l0 q k mid hi else impl_halve.l0 q k lo mid) else some (lo, hi)

set_option maxHeartbeats 1000000 in
set_option maxRecDepth 100000 in
theorem impl_halve.calls_s1 (q : Int → Option Bool) (cap : Value) (I : World → Prop) (hI : ∀ w1 w2, I w1 → Below w1.heap.size w1 w2 → I w2) (hD : ∀ w1 n, I w1 → I (w1.drewN n))
    (hq : ∀ a b w1, I w1 → q a = some b → Calls Try.prog 81 #[.int .i64 a, cap] w1 fun e w' => e = .returned (.bool b) ∧ Below w1.heap.size w1 w')
    (k : Nat) (lo hi r1 r2 : Int) (w : World) (hw : I w) (h : impl_halve.l0 q k lo hi = some (r1, r2)) :
    Calls Try.prog 80 #[.int .i64 lo, .int .i64 hi, .func (.func 81) #[] #[cap]] w fun e w' => e = .returned (.tuple #[.int .i64 r1, .int .i64 r2]) ∧ Below w.heap.size w w' := by
  have HA := Aside0.mk h
  have HI := Aside0.mk hI
  have HD := Aside0.mk hD
  have HQ := Aside0.mk hq
  have HW := Aside0.mk hw
  clear h hI hD hq hw
  go_enter Try.func80, Try.ntmps80
  go_wp2
  go_loopg [0, 1] k (fun kq v0 v1 w' => ∃ (a b : Int), v0 = .int .i64 a ∧ v1 = .int .i64 b ∧ Aside0 (impl_halve.l0 q kq a b = some (r1, r2)) ∧ Aside0 (kq ≤ k) ∧ Aside0 (I w') ∧ Bl w.heap.size w w')
  case atStart => exact ⟨lo, hi, rfl, rfl, HA, ⟨Nat.le_refl _⟩, HW, Bl.refl w⟩
  case round =>
    clear HA HW
    obtain ⟨a, b, rfl, rfl, HA, HK, HJ, HB⟩ := hrel
    cases gk with
    | zero => exact absurd HA.out (by simp [impl_halve.l0])
    | succ k1 =>
      have H := HA.out
      clear HA
      simp only [impl_halve.l0] at H
      by_cases c1 : wrap64 (b - a) > 1
      · rw [if_pos c1] at H
        have c1b : decide (1 < wrap64 (b - a)) = true := decide_eq_true c1
        clear c1
        simp only [Option.bind_eq_some_iff] at H
        obtain ⟨mid, hm, t, ht, H⟩ := H
        have A1 := Aside0.mk hm
        have A2 := Aside0.mk ht
        clear hm ht
        cases t with
        | true =>
          rw [if_pos rfl] at H
          have HH := Aside0.mk H
          clear H
          go_wp2_with (first
            | (go_at_call 71; (with_reducible refine (impl_down.calls _ _ mid _ A1.out).mono ?_); rintro e w' ⟨rfl, ⟨m1, rfl⟩⟩; replace HB := HB.drewN m1; replace HJ := Aside0.mk (HD.out _ m1 HJ.out))
            | (go_at_call 81; (with_reducible refine (HQ.out mid true _ HJ.out A2.out).mono ?_); rintro e w2 ⟨rfl, hb⟩; replace HB := Bl.call hb HB; replace HJ := Aside0.mk (HI.out _ _ HJ.out hb)))
          go_roundg k1
          case measure => have := HK.out; omega
          case rel => exact ⟨_, _, rfl, rfl, HH, ⟨by have := HK.out; omega⟩, HJ, HB⟩
        | false =>
          rw [if_neg (by decide)] at H
          have HH := Aside0.mk H
          clear H
          go_wp2_with (first
            | (go_at_call 71; (with_reducible refine (impl_down.calls _ _ mid _ A1.out).mono ?_); rintro e w' ⟨rfl, ⟨m1, rfl⟩⟩; replace HB := HB.drewN m1; replace HJ := Aside0.mk (HD.out _ m1 HJ.out))
            | (go_at_call 81; (with_reducible refine (HQ.out mid false _ HJ.out A2.out).mono ?_); rintro e w2 ⟨rfl, hb⟩; replace HB := Bl.call hb HB; replace HJ := Aside0.mk (HI.out _ _ HJ.out hb)))
          go_roundg k1
          case measure => have := HK.out; omega
          case rel => exact ⟨_, _, rfl, rfl, HH, ⟨by have := HK.out; omega⟩, HJ, HB⟩
      · rw [if_neg c1] at H
        have c1b : decide (1 < wrap64 (b - a)) = false := decide_eq_false c1
        clear c1
        simp only [Option.some.injEq, Prod.mk.injEq] at H
        obtain ⟨rfl, rfl⟩ := H
        go_wp2
        go_ret2
        exact ⟨rfl, HB.out⟩
set_option maxHeartbeats 1000000 in
set_option maxRecDepth 100000 in
theorem impl_halve.calls_s2 (q : Int → Option Bool) (cap : Value) (I : World → Prop) (hI : ∀ w1 w2, I w1 → Below w1.heap.size w1 w2 → I w2) (hD : ∀ w1 n, I w1 → I (w1.drewN n))
    (hq : ∀ a b w1, I w1 → q a = some b → Calls Try.prog 82 #[.int .i64 a, cap] w1 fun e w' => e = .returned (.bool b) ∧ Below w1.heap.size w1 w')
    (k : Nat) (lo hi r1 r2 : Int) (w : World) (hw : I w) (h : impl_halve.l0 q k lo hi = some (r1, r2)) :
    Calls Try.prog 80 #[.int .i64 lo, .int .i64 hi, .func (.func 82) #[] #[cap]] w fun e w' => e = .returned (.tuple #[.int .i64 r1, .int .i64 r2]) ∧ Below w.heap.size w w' := by
  have HA := Aside0.mk h
  have HI := Aside0.mk hI
  have HD := Aside0.mk hD
  have HQ := Aside0.mk hq
  have HW := Aside0.mk hw
  clear h hI hD hq hw
  go_enter Try.func80, Try.ntmps80
  go_wp2
  go_loopg [0, 1] k (fun kq v0 v1 w' => ∃ (a b : Int), v0 = .int .i64 a ∧ v1 = .int .i64 b ∧ Aside0 (impl_halve.l0 q kq a b = some (r1, r2)) ∧ Aside0 (kq ≤ k) ∧ Aside0 (I w') ∧ Bl w.heap.size w w')
  case atStart => exact ⟨lo, hi, rfl, rfl, HA, ⟨Nat.le_refl _⟩, HW, Bl.refl w⟩
  case round =>
    clear HA HW
    obtain ⟨a, b, rfl, rfl, HA, HK, HJ, HB⟩ := hrel
    cases gk with
    | zero => exact absurd HA.out (by simp [impl_halve.l0])
    | succ k1 =>
      have H := HA.out
      clear HA
      simp only [impl_halve.l0] at H
      by_cases c1 : wrap64 (b - a) > 1
      · rw [if_pos c1] at H
        have c1b : decide (1 < wrap64 (b - a)) = true := decide_eq_true c1
        clear c1
        simp only [Option.bind_eq_some_iff] at H
        obtain ⟨mid, hm, t, ht, H⟩ := H
        have A1 := Aside0.mk hm
        have A2 := Aside0.mk ht
        clear hm ht
        cases t with
        | true =>
          rw [if_pos rfl] at H
          have HH := Aside0.mk H
          clear H
          go_wp2_with (first
            | (go_at_call 71; (with_reducible refine (impl_down.calls _ _ mid _ A1.out).mono ?_); rintro e w' ⟨rfl, ⟨m1, rfl⟩⟩; replace HB := HB.drewN m1; replace HJ := Aside0.mk (HD.out _ m1 HJ.out))
            | (go_at_call 82; (with_reducible refine (HQ.out mid true _ HJ.out A2.out).mono ?_); rintro e w2 ⟨rfl, hb⟩; replace HB := Bl.call hb HB; replace HJ := Aside0.mk (HI.out _ _ HJ.out hb)))
          go_roundg k1
          case measure => have := HK.out; omega
          case rel => exact ⟨_, _, rfl, rfl, HH, ⟨by have := HK.out; omega⟩, HJ, HB⟩
        | false =>
          rw [if_neg (by decide)] at H
          have HH := Aside0.mk H
          clear H
          go_wp2_with (first
            | (go_at_call 71; (with_reducible refine (impl_down.calls _ _ mid _ A1.out).mono ?_); rintro e w' ⟨rfl, ⟨m1, rfl⟩⟩; replace HB := HB.drewN m1; replace HJ := Aside0.mk (HD.out _ m1 HJ.out))
            | (go_at_call 82; (with_reducible refine (HQ.out mid false _ HJ.out A2.out).mono ?_); rintro e w2 ⟨rfl, hb⟩; replace HB := Bl.call hb HB; replace HJ := Aside0.mk (HI.out _ _ HJ.out hb)))
          go_roundg k1
          case measure => have := HK.out; omega
          case rel => exact ⟨_, _, rfl, rfl, HH, ⟨by have := HK.out; omega⟩, HJ, HB⟩
      · rw [if_neg c1] at H
        have c1b : decide (1 < wrap64 (b - a)) = false := decide_eq_false c1
        clear c1
        simp only [Option.some.injEq, Prod.mk.injEq] at H
        obtain ⟨rfl, rfl⟩ := H
        go_wp2
        go_ret2
        exact ⟨rfl, HB.out⟩
set_option maxHeartbeats 1000000 in
set_option maxRecDepth 100000 in
theorem sineBack1.calls (k : Nat) (num : Int) (g : Nat) (a : Int) (b : Bool) (w : World) (hg : w.cell? ⟨g, 0, none⟩ = some (.int .i64 num))
    (h : ((impl_sine.f k (wrap64 (2 * a))).bind fun s => some (decide (s.2 ≤ num))) = some b) :
    Calls Try.prog 81 #[.int .i64 a, .pointer (some ⟨g, 0, none⟩)] w fun e w' => e = .returned (.bool b) ∧ Below w.heap.size w w' := by
  simp only [Option.bind_eq_some_iff, Option.some.injEq] at h
  obtain ⟨⟨x, y⟩, h1, rfl⟩ := h
  have A1 := Aside0.mk h1
  clear h1
  have HB := Bl.refl w
  go_enter Try.func81, Try.ntmps81
  go_wp2
  go_region_held3 (fun w' => w'.cell? ⟨g, 0, none⟩ = some (.int .i64 num) ∧ Bl w.heap.size w w')
    (((try go_split_ands); refine ⟨?_, ?_⟩ <;> (first | assumption | exact HB.drew | exact cell_call (by assumption) (by assumption) | exact Bl.call (by assumption) (by assumption) | go_keep)))
    (((try simp only [i64_w]); go_at_call 76; (with_reducible refine (impl_sine.calls _ _ x y _ A1.out).mono ?_); rintro e w2 ⟨rfl, hb2⟩))
  go_wp2
  go_ret
  go_split_ands
  exact ⟨rfl, Bl.out ‹Bl w.heap.size w w2›⟩
set_option maxHeartbeats 1000000 in
set_option maxRecDepth 100000 in
theorem sineBack2.calls (k : Nat) (num : Int) (g : Nat) (a : Int) (b : Bool) (w : World) (hg : w.cell? ⟨g, 0, none⟩ = some (.int .i64 num))
    (h : ((impl_sine.f k (wrap64 (2 * a))).bind fun s => some (decide (s.1 < num))) = some b) :
    Calls Try.prog 82 #[.int .i64 a, .pointer (some ⟨g, 0, none⟩)] w fun e w' => e = .returned (.bool b) ∧ Below w.heap.size w w' := by
  simp only [Option.bind_eq_some_iff, Option.some.injEq] at h
  obtain ⟨⟨x, y⟩, h1, rfl⟩ := h
  have A1 := Aside0.mk h1
  clear h1
  have HB := Bl.refl w
  go_enter Try.func82, Try.ntmps82
  go_wp2
  go_region_held3 (fun w' => w'.cell? ⟨g, 0, none⟩ = some (.int .i64 num) ∧ Bl w.heap.size w w')
    (((try go_split_ands); refine ⟨?_, ?_⟩ <;> (first | assumption | exact HB.drew | exact cell_call (by assumption) (by assumption) | exact Bl.call (by assumption) (by assumption) | go_keep)))
    (((try simp only [i64_w]); go_at_call 76; (with_reducible refine (impl_sine.calls _ _ x y _ A1.out).mono ?_); rintro e w2 ⟨rfl, hb2⟩))
  go_wp2
  go_ret
  go_split_ands
  exact ⟨rfl, Bl.out ‹Bl w.heap.size w w2›⟩
/-! ### impl_sineBack: function 49 -/
def impl_sineBack.q1 (k : Nat) (num : Int) (a : Int) : Option Bool := (impl_sine.f k (wrap64 (2 * a))).bind fun s => some (decide (s.2 ≤ num))
def impl_sineBack.q2 (k : Nat) (num : Int) (a : Int) : Option Bool := (impl_sine.f k (wrap64 (2 * a))).bind fun s => some (decide (s.1 < num))
def impl_sineBack.f (k : Nat) (a0 : Int) : Option (Int × Int) := (impl_halve.l0 (impl_sineBack.q1 k a0) k (-32400000) 32400000).bind fun x => (impl_halve.l0 (impl_sineBack.q2 k a0) k (-32400000) 32400000).bind fun y => some (x.1, y.2)
set_option maxHeartbeats 1000000 in
set_option maxRecDepth 100000 in
theorem impl_sineBack.calls (k : Nat) (a0 : Int) (r1 : Int) (r2 : Int) (w : World) (h : impl_sineBack.f k a0 = some (r1, r2)) :
    Calls Try.prog 49 #[.int .i64 a0] w fun e w' => e = .returned (.agg #[.int .i64 r1, .int .i64 r2]) ∧ Below w.heap.size w w' := by
  have hu := Try.underlying29
  simp only [impl_sineBack.f, Option.bind_eq_some_iff, Option.some.injEq, Prod.mk.injEq] at h
  obtain ⟨⟨x1, x2⟩, h1, ⟨y1, y2⟩, h2, rfl, rfl⟩ := h
  have A1 := Aside0.mk h1
  have A2 := Aside0.mk h2
  clear h1 h2
  have HB := Bl.refl w
  have hmf : ∀ (fn : Fn) (first cap : Array Value) (w : World), (Instr.makeFunc fn first cap).run Try.prog w = .ok (.func fn first cap) w := fun _ _ _ _ => rfl
  have hg2 : ((w.alloc (.cells #[.int .i64 a0] 3 (0, 0))).alloc (.cells #[.int .i64 0, .int .i64 0] 29 (0, 0))).cell? ⟨w.heap.size, 0, none⟩ = some (.int .i64 a0) := by simp
  have HG := Aside0.mk hg2
  have BK := Aside0.mk (blk_new (w.alloc (.cells #[.int .i64 a0] 3 (0, 0))) (.cells #[.int .i64 0, .int .i64 0] 29 (0, 0)))
  clear hg2
  replace HB := (HB.alloc (.cells #[.int .i64 a0] 3 (0, 0))).alloc (.cells #[.int .i64 0, .int .i64 0] 29 (0, 0))
  go_enter Try.func49, Try.ntmps49
  go_wp2_with fail
  refine (impl_halve.calls_s1 (impl_sineBack.q1 k a0) _ (fun w' => w'.cell? ⟨w.heap.size, 0, none⟩ = some (.int .i64 a0)) (fun _ _ h hb => cell_call hb h) (fun _ _ h => by simpa using h) (fun a b w1 hc hq => sineBack1.calls k a0 _ a b w1 hc hq) k _ _ x1 x2 _ HG.out A1.out).mono ?_
  rintro e w1 ⟨rfl, hb1⟩
  replace HG := Aside0.mk (cell_call hb1 HG.out)
  replace BK := Aside0.mk (blk_below BK.out hb1)
  replace HB := Bl.call hb1 HB
  clear hb1
  go_wp2_with fail
  refine (impl_halve.calls_s2 (impl_sineBack.q2 k a0) _ (fun w' => w'.cell? ⟨w.heap.size, 0, none⟩ = some (.int .i64 a0)) (fun _ _ h hb => cell_call hb h) (fun _ _ h => by simpa using h) (fun a b w1 hc hq => sineBack2.calls k a0 _ a b w1 hc hq) k _ _ y1 y2 _ HG.out A2.out).mono ?_
  rintro e w2 ⟨rfl, hb2⟩
  replace BK := Aside0.mk (blk_below BK.out hb2)
  replace HB := Bl.call hb2 HB
  clear hb2
  have hcz0 : w2.cell? ⟨w.heap.size + 1, 0, none⟩ = some (.int .i64 0) := by simpa using (blk_cell BK.out 0)
  have hcz1 : w2.cell? ⟨w.heap.size + 1, 1, none⟩ = some (.int .i64 0) := by simpa using (blk_cell BK.out 1)
  have hfz0 : w2.frozen? ⟨w.heap.size + 1, 0, none⟩ = false := by simpa using blk_frozen BK.out 0
  have hfz1 : w2.frozen? ⟨w.heap.size + 1, 1, none⟩ = false := by simpa using blk_frozen BK.out 1
  go_wp2_with fail
  have q1 : ((w2.setCell ⟨w.heap.size + 1, 0, none⟩ (.int .i64 x1)).setCell ⟨w.heap.size + 1, 1, none⟩ (.int .i64 y2)).heap[w.heap.size + 1]? = some (.cells #[.int .i64 x1, .int .i64 y2] 29 (0, 0)) := by
    have h := BK.out
    simp only [World.size_alloc] at h
    exact blk_put (blk_put h 0 _ rfl) 1 _ rfl
  exact bodyPost_ret (results_cell_row rfl _ _ (w.heap.size + 1) 29 #[.int .i64 x1, .int .i64 y2] (0, 0) _ rfl q1 hu rfl (by kernel_rfl)) rfl ⟨rfl, (Bl.set (Nat.le_succ _) (Bl.set (Nat.le_succ _) HB)).out⟩

end Go.Proofs.Ytmcippkpgmehdaa.M

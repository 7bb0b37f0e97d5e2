import Derived.Test.YtcdgplkmahabiaaM0
import Derived.Laws.EntriesVeiled
import Derived.Test.YtcdgplkmahabiaaMa
import Derived.Test.YtcdgplkmahabiaaMc
import Derived.Test.YtcdgplkmahabiaaMh
namespace Go.Proofs.Ytcdgplkmahabiaa.M
open Go.RowKit Go.Proofs.YtcdgplkmahabiaaW.PrintWords Go.Proofs.YtcdgplkmahabiaaW.PrintLast Go.Proofs.YtcdgplkmahabiaaW.PrintMore
attribute [local go_sem] max2_int min2_int max_two min_two max_three min_three max_four min_four
attribute [local go_sem high] eqA23 eqA30
attribute [local go_sem] fld23_0 fld23_1 fld30_0 fld30_1 fld55_0 fld55_1 fld55_2 fld55_3 fld55_4
set_option linter.unusedVariables false
set_option linter.unusedSimpArgs false

/-! ### impl_wayOf: function 57, and its questions -/
def impl_wayOf.q1 (k : Nat) (u r : Int) (a : Int) : Option Bool := (impl_cosine.f k a).bind fun c => (impl_down.f (wrap64 (u * c.1)) 1000000000).bind fun x => (impl_sine.f k (wrap64 (2 * a))).bind fun s => (impl_up.f (wrap64 (r * s.2)) 1000000000).bind fun y => some (decide (0 ≤ wrap64 (x - y)))
def impl_wayOf.q2 (k : Nat) (u r : Int) (a : Int) : Option Bool := (impl_wayOf.q1 k u r a).bind fun b => if b = true then some false else
  (impl_cosine.f k a).bind fun c => (impl_up.f (wrap64 (u * c.2)) 1000000000).bind fun x => (impl_sine.f k (wrap64 (2 * a))).bind fun s => (impl_down.f (wrap64 (r * s.1)) 1000000000).bind fun y => some (decide (wrap64 (x - y) ≤ 0))
def impl_wayOf.q3 (k : Nat) (u r : Int) (a : Int) : Option Bool := (impl_wayOf.q2 k u r a).bind fun b => some (!b)
theorem impl_wayOf.mono1 (u r a : Int) (k : Nat) : LeO (impl_wayOf.q1 k u r a) (impl_wayOf.q1 (k + 1) u r a) := by
  unfold impl_wayOf.q1
  exact LeO.bind (impl_cosine.mono _ _) (fun _ => LeO.bind (LeO.refl _) (fun _ => LeO.bind (impl_sine.mono _ _) (fun _ => LeO.refl _)))
theorem impl_wayOf.mono2 (u r a : Int) (k : Nat) : LeO (impl_wayOf.q2 k u r a) (impl_wayOf.q2 (k + 1) u r a) := by
  unfold impl_wayOf.q2
  exact LeO.bind (impl_wayOf.mono1 _ _ _ _) (fun _ => LeO.ite (LeO.refl _) (LeO.bind (impl_cosine.mono _ _) (fun _ => LeO.bind (LeO.refl _) (fun _ => LeO.bind (impl_sine.mono _ _) (fun _ => LeO.refl _)))))
theorem impl_wayOf.mono3 (u r a : Int) (k : Nat) : LeO (impl_wayOf.q3 k u r a) (impl_wayOf.q3 (k + 1) u r a) := by
  unfold impl_wayOf.q3
  exact LeO.bind (impl_wayOf.mono2 _ _ _ _) (fun _ => LeO.refl _)
set_option maxHeartbeats 2000000 in
set_option maxRecDepth 100000 in
theorem wayOf1.calls (k : Nat) (u r : Int) (g h : Nat) (a : Int) (b : Bool) (w : World) (hg : w.cell? ⟨g, 0, none⟩ = some (.int .i64 u)) (hh : w.cell? ⟨h, 0, none⟩ = some (.int .i64 r)) (hq : impl_wayOf.q1 k u r a = some b) :
    Calls Try.prog 79 #[.int .i64 a, .pointer (some ⟨g, 0, none⟩), .pointer (some ⟨h, 0, none⟩)] w fun e w' => e = .returned (.bool b) ∧ Below w.heap.size w w' := by
  simp only [impl_wayOf.q1, Option.bind_eq_some_iff, Option.some.injEq] at hq
  obtain ⟨⟨c1, c2⟩, h1, x, h2, ⟨s1, s2⟩, h3, y, h4, rfl⟩ := hq
  have A1 := Aside0.mk h1
  have A2 := Aside0.mk h2
  have A3 := Aside0.mk h3
  have A4 := Aside0.mk h4
  clear h1 h2 h3 h4
  have HB := Bl.refl w
  go_enter Try.func79, Try.ntmps79
  go_wp2
  go_region_held3 (fun w' => w'.cell? ⟨g, 0, none⟩ = some (.int .i64 u) ∧ w'.cell? ⟨h, 0, none⟩ = some (.int .i64 r) ∧ Bl w.heap.size w w')
    (((try go_split_ands); refine ⟨?_, ?_, ?_⟩ <;> (first | assumption | exact HB.drew | exact cell_call (by assumption) (by assumption) | exact Bl.call (by assumption) (by assumption) | exact Bl.drewN (by assumption) _ | go_keep)))
    (((try simp only [i64_w]); first
      | (go_at_call 42; (with_reducible refine (impl_cosine.calls _ _ c1 c2 _ A1.out).mono ?_); rintro e w2 ⟨rfl, hb2⟩)
      | (go_at_call 41; (with_reducible refine (impl_sine.calls _ _ s1 s2 _ A3.out).mono ?_); rintro e w3 ⟨rfl, hb3⟩)
      | (go_at_call 61; (with_reducible refine (impl_down.calls _ _ x _ A2.out).mono ?_); rintro e w4 ⟨rfl, ⟨m4, rfl⟩⟩)
      | (go_at_call 62; (with_reducible refine (impl_up.calls _ _ y _ A4.out).mono ?_); rintro e w5 ⟨rfl, ⟨m5, rfl⟩⟩)))
  all_goals
    go_wp2
    go_ret
    go_split_ands
    exact ⟨by simp [i64_w], Bl.out (by assumption)⟩
set_option maxHeartbeats 4000000 in
set_option maxRecDepth 100000 in
theorem wayOf2.calls (k : Nat) (u r : Int) (f g h : Nat) (a : Int) (b : Bool) (w : World) (hf : w.cell? ⟨f, 0, none⟩ = some (.func (.func 79) #[] #[.pointer (some ⟨g, 0, none⟩), .pointer (some ⟨h, 0, none⟩)]))
    (hg : w.cell? ⟨g, 0, none⟩ = some (.int .i64 u)) (hh : w.cell? ⟨h, 0, none⟩ = some (.int .i64 r)) (hq : impl_wayOf.q2 k u r a = some b) :
    Calls Try.prog 80 #[.int .i64 a, .pointer (some ⟨f, 0, none⟩), .pointer (some ⟨g, 0, none⟩), .pointer (some ⟨h, 0, none⟩)] w fun e w' => e = .returned (.bool b) ∧ Below w.heap.size w w' := by
  simp only [impl_wayOf.q2, Option.bind_eq_some_iff] at hq
  obtain ⟨b1, h0, hq⟩ := hq
  have A0 := Aside0.mk h0
  clear h0
  have HB := Bl.refl w
  cases b1 with
  | true =>
    simp only [if_true, Option.some.injEq] at hq
    subst hq
    go_enter Try.func80, Try.ntmps80
    go_wp2
    refine start_ (n := 22) (S := fun w' => w'.cell? ⟨f, 0, none⟩ = some (.func (.func 79) #[] #[.pointer (some ⟨g, 0, none⟩), .pointer (some ⟨h, 0, none⟩)])) (ds := []) #[false, false, false, false, false, false, false, false, false, false, false, false, false, false, false, false, false, false, false, false, false, false] (by kernel_rfl) rfl rfl (by simpa using hf) (fun hHeld => ?_)
    refine take_ (i := 0) (N := some 6) (v := ?_) (a' := ?_) #[true, false, false, false, false, false, false, false, false, false, false, false, false, false, false, false, false, false, false, false, false, false] rfl rfl (by kernel_rfl) (fun _ _ _ h => h) (Or.inl ⟨by rfl, ?_⟩) hHeld ?_ ?_
    rotate_left
    · rintro w' s0
      go_simp
      with_reducible rfl
    rotate_left
    · simp only [Act.put, List.setIfInBounds_toArray, List.set_cons_zero, List.set_cons_succ, i64_w, i32_w]
      rfl
    refine pure_ (i := 1) (N := some 7) (v := ?_) (a' := ?_) #[true, true, false, false, false, false, false, false, false, false, false, false, false, false, false, false, false, false, false, false, false, false] rfl rfl (by kernel_rfl) (fun _ _ _ h => h) (Or.inl ⟨by rfl, ?_⟩) ?_ ?_
    rotate_left
    · intro w'
      go_simp
      with_reducible rfl
    rotate_left
    · simp only [Act.put, List.setIfInBounds_toArray, List.set_cons_zero, List.set_cons_succ, i64_w, i32_w]
      rfl
    refine one_ (i := 2) (N := some 8) #[true, true, true, false, false, false, false, false, false, false, false, false, false, false, false, false, false, false, false, false, false, false] rfl rfl (by kernel_rfl) (by decide) (fun K hK => ?_)
    refine call_ 79 #[.int .i64 a, .pointer (some ⟨g, 0, none⟩), .pointer (some ⟨h, 0, none⟩)] rfl rfl (by have he := enters_ Try.func79 (by kernel_rfl) rfl #[.int .i64 a, .pointer (some ⟨g, 0, none⟩), .pointer (some ⟨h, 0, none⟩)] w.drew; unfold execOp; simp [resolve, Deferred.ofValue, invoke, Act.eval, he]) ?_
    refine (wayOf1.calls k u r g h a true _ (by simpa using hg) (by simpa using hh) A0.out).mono ?_
    rintro e w2 ⟨rfl, hb2⟩
    refine ⟨_, rfl, ?_⟩
    replace HB := Bl.call hb2 HB.drew
    refine hK.out _ _ (cell_call hb2 (by simpa using hf)) (fun hHeld => ?_)
    clear hK K
    refine norm_ (a' := ?_) ?_ ?_
    rotate_left
    · show Act.put _ (some 8) _ = _
      simp only [Act.put, List.setIfInBounds_toArray, List.set_cons_zero, List.set_cons_succ, i64_w, i32_w]
      rfl
    refine pure_ (i := 3) (N := some 9) (v := ?_) (a' := ?_) #[true, true, true, true, false, false, false, false, false, false, false, false, false, false, false, false, false, false, false, false, false, false] rfl rfl (by kernel_rfl) (fun _ _ _ h => h) (Or.inl ⟨by rfl, ?_⟩) ?_ ?_
    rotate_left
    · intro w'
      go_simp
      with_reducible rfl
    rotate_left
    · simp only [Act.put, List.setIfInBounds_toArray, List.set_cons_zero, List.set_cons_succ, i64_w, i32_w]
      rfl
    refine pure_ (i := 4) (N := some 10) (v := ?_) (a' := ?_) #[true, true, true, true, true, false, false, false, false, false, false, false, false, false, false, false, false, false, false, false, false, false] rfl rfl (by kernel_rfl) (fun _ _ _ h => h) (Or.inl ⟨by rfl, ?_⟩) ?_ ?_
    rotate_left
    · intro w'
      go_simp
      with_reducible rfl
    rotate_left
    · simp only [Act.put, List.setIfInBounds_toArray, List.set_cons_zero, List.set_cons_succ, i64_w, i32_w]
      rfl
    refine pure_ (i := 5) (N := some 11) (v := undef) (a' := ?_) #[true, true, true, true, true, true, false, false, false, false, false, false, false, false, false, false, false, false, false, false, false, false] rfl rfl (by kernel_rfl) (fun _ _ _ h => h) (Or.inr ⟨by rfl, rfl⟩) ?_ ?_
    rotate_left
    · simp only [Act.put, List.setIfInBounds_toArray, List.set_cons_zero, List.set_cons_succ, i64_w, i32_w]
      rfl
    refine pure_ (i := 6) (N := some 12) (v := undef) (a' := ?_) #[true, true, true, true, true, true, true, false, false, false, false, false, false, false, false, false, false, false, false, false, false, false] rfl rfl (by kernel_rfl) (fun _ _ _ h => h) (Or.inr ⟨by rfl, rfl⟩) ?_ ?_
    rotate_left
    · simp only [Act.put, List.setIfInBounds_toArray, List.set_cons_zero, List.set_cons_succ, i64_w, i32_w]
      rfl
    refine pure_ (i := 7) (N := some 13) (v := undef) (a' := ?_) #[true, true, true, true, true, true, true, true, false, false, false, false, false, false, false, false, false, false, false, false, false, false] rfl rfl (by kernel_rfl) (fun _ _ _ h => h) (Or.inr ⟨by rfl, rfl⟩) ?_ ?_
    rotate_left
    · simp only [Act.put, List.setIfInBounds_toArray, List.set_cons_zero, List.set_cons_succ, i64_w, i32_w]
      rfl
    refine pure_ (i := 8) (N := some 14) (v := undef) (a' := ?_) #[true, true, true, true, true, true, true, true, true, false, false, false, false, false, false, false, false, false, false, false, false, false] rfl rfl (by kernel_rfl) (fun _ _ _ h => h) (Or.inr ⟨by rfl, rfl⟩) ?_ ?_
    rotate_left
    · simp only [Act.put, List.setIfInBounds_toArray, List.set_cons_zero, List.set_cons_succ, i64_w, i32_w]
      rfl
    refine pure_ (i := 9) (N := some 15) (v := undef) (a' := ?_) #[true, true, true, true, true, true, true, true, true, true, false, false, false, false, false, false, false, false, false, false, false, false] rfl rfl (by kernel_rfl) (fun _ _ _ h => h) (Or.inr ⟨by rfl, rfl⟩) ?_ ?_
    rotate_left
    · simp only [Act.put, List.setIfInBounds_toArray, List.set_cons_zero, List.set_cons_succ, i64_w, i32_w]
      rfl
    refine pure_ (i := 10) (N := some 16) (v := undef) (a' := ?_) #[true, true, true, true, true, true, true, true, true, true, true, false, false, false, false, false, false, false, false, false, false, false] rfl rfl (by kernel_rfl) (fun _ _ _ h => h) (Or.inr ⟨by rfl, rfl⟩) ?_ ?_
    rotate_left
    · simp only [Act.put, List.setIfInBounds_toArray, List.set_cons_zero, List.set_cons_succ, i64_w, i32_w]
      rfl
    refine pure_ (i := 11) (N := some 17) (v := undef) (a' := ?_) #[true, true, true, true, true, true, true, true, true, true, true, true, false, false, false, false, false, false, false, false, false, false] rfl rfl (by kernel_rfl) (fun _ _ _ h => h) (Or.inr ⟨by rfl, rfl⟩) ?_ ?_
    rotate_left
    · simp only [Act.put, List.setIfInBounds_toArray, List.set_cons_zero, List.set_cons_succ, i64_w, i32_w]
      rfl
    refine pure_ (i := 12) (N := some 18) (v := undef) (a' := ?_) #[true, true, true, true, true, true, true, true, true, true, true, true, true, false, false, false, false, false, false, false, false, false] rfl rfl (by kernel_rfl) (fun _ _ _ h => h) (Or.inr ⟨by rfl, rfl⟩) ?_ ?_
    rotate_left
    · simp only [Act.put, List.setIfInBounds_toArray, List.set_cons_zero, List.set_cons_succ, i64_w, i32_w]
      rfl
    refine pure_ (i := 13) (N := some 19) (v := undef) (a' := ?_) #[true, true, true, true, true, true, true, true, true, true, true, true, true, true, false, false, false, false, false, false, false, false] rfl rfl (by kernel_rfl) (fun _ _ _ h => h) (Or.inr ⟨by rfl, rfl⟩) ?_ ?_
    rotate_left
    · simp only [Act.put, List.setIfInBounds_toArray, List.set_cons_zero, List.set_cons_succ, i64_w, i32_w]
      rfl
    refine pure_ (i := 14) (N := some 20) (v := undef) (a' := ?_) #[true, true, true, true, true, true, true, true, true, true, true, true, true, true, true, false, false, false, false, false, false, false] rfl rfl (by kernel_rfl) (fun _ _ _ h => h) (Or.inr ⟨by rfl, rfl⟩) ?_ ?_
    rotate_left
    · simp only [Act.put, List.setIfInBounds_toArray, List.set_cons_zero, List.set_cons_succ, i64_w, i32_w]
      rfl
    refine pure_ (i := 15) (N := some 21) (v := undef) (a' := ?_) #[true, true, true, true, true, true, true, true, true, true, true, true, true, true, true, true, false, false, false, false, false, false] rfl rfl (by kernel_rfl) (fun _ _ _ h => h) (Or.inr ⟨by rfl, rfl⟩) ?_ ?_
    rotate_left
    · simp only [Act.put, List.setIfInBounds_toArray, List.set_cons_zero, List.set_cons_succ, i64_w, i32_w]
      rfl
    refine pure_ (i := 16) (N := some 22) (v := undef) (a' := ?_) #[true, true, true, true, true, true, true, true, true, true, true, true, true, true, true, true, true, false, false, false, false, false] rfl rfl (by kernel_rfl) (fun _ _ _ h => h) (Or.inr ⟨by rfl, rfl⟩) ?_ ?_
    rotate_left
    · simp only [Act.put, List.setIfInBounds_toArray, List.set_cons_zero, List.set_cons_succ, i64_w, i32_w]
      rfl
    refine pure_ (i := 17) (N := some 23) (v := undef) (a' := ?_) #[true, true, true, true, true, true, true, true, true, true, true, true, true, true, true, true, true, true, false, false, false, false] rfl rfl (by kernel_rfl) (fun _ _ _ h => h) (Or.inr ⟨by rfl, rfl⟩) ?_ ?_
    rotate_left
    · simp only [Act.put, List.setIfInBounds_toArray, List.set_cons_zero, List.set_cons_succ, i64_w, i32_w]
      rfl
    refine pure_ (i := 18) (N := some 24) (v := undef) (a' := ?_) #[true, true, true, true, true, true, true, true, true, true, true, true, true, true, true, true, true, true, true, false, false, false] rfl rfl (by kernel_rfl) (fun _ _ _ h => h) (Or.inr ⟨by rfl, rfl⟩) ?_ ?_
    rotate_left
    · simp only [Act.put, List.setIfInBounds_toArray, List.set_cons_zero, List.set_cons_succ, i64_w, i32_w]
      rfl
    refine pure_ (i := 19) (N := some 25) (v := undef) (a' := ?_) #[true, true, true, true, true, true, true, true, true, true, true, true, true, true, true, true, true, true, true, true, false, false] rfl rfl (by kernel_rfl) (fun _ _ _ h => h) (Or.inr ⟨by rfl, rfl⟩) ?_ ?_
    rotate_left
    · simp only [Act.put, List.setIfInBounds_toArray, List.set_cons_zero, List.set_cons_succ, i64_w, i32_w]
      rfl
    refine pure_ (i := 20) (N := some 26) (v := ?_) (a' := ?_) #[true, true, true, true, true, true, true, true, true, true, true, true, true, true, true, true, true, true, true, true, true, false] rfl rfl (by kernel_rfl) (fun _ _ _ h => h) (Or.inl ⟨by rfl, ?_⟩) ?_ ?_
    rotate_left
    · intro w'
      go_simp
      with_reducible rfl
    rotate_left
    · simp only [Act.put, List.setIfInBounds_toArray, List.set_cons_zero, List.set_cons_succ, i64_w, i32_w]
      rfl
    refine pure_ (i := 21) (N := some 5) (v := ?_) (a' := ?_) #[true, true, true, true, true, true, true, true, true, true, true, true, true, true, true, true, true, true, true, true, true, true] rfl rfl (by kernel_rfl) (fun _ _ _ h => h) (Or.inl ⟨by rfl, ?_⟩) ?_ ?_
    rotate_left
    · intro w'
      go_simp
      with_reducible rfl
    rotate_left
    · simp only [Act.put, List.setIfInBounds_toArray, List.set_cons_zero, List.set_cons_succ, i64_w, i32_w]
      rfl
    refine done_ (by kernel_rfl) ?_
    go_wp2
    go_ret
    exact ⟨by simp, HB.out⟩
  | false =>
    simp only [if_neg (show ¬ (false = true) by decide), Option.bind_eq_some_iff, Option.some.injEq] at hq
    obtain ⟨⟨c1, c2⟩, h1, x, h2, ⟨s1, s2⟩, h3, y, h4, rfl⟩ := hq
    have A1 := Aside0.mk h1
    have A2 := Aside0.mk h2
    have A3 := Aside0.mk h3
    have A4 := Aside0.mk h4
    clear h1 h2 h3 h4
    go_enter Try.func80, Try.ntmps80
    go_wp2
    go_region_held3 (fun w' => w'.cell? ⟨f, 0, none⟩ = some (.func (.func 79) #[] #[.pointer (some ⟨g, 0, none⟩), .pointer (some ⟨h, 0, none⟩)]) ∧ w'.cell? ⟨g, 0, none⟩ = some (.int .i64 u) ∧ w'.cell? ⟨h, 0, none⟩ = some (.int .i64 r) ∧ Bl w.heap.size w w')
      (((try go_split_ands); refine ⟨?_, ?_, ?_, ?_⟩ <;> (first | assumption | exact HB.drew | exact cell_call (by assumption) (by assumption) | exact Bl.call (by assumption) (by assumption) | exact Bl.drewN (by assumption) _ | go_keep)))
      (((try simp only [i64_w]); first
        | (go_at_call 79; (with_reducible refine (wayOf1.calls k u r g h a false _ (by go_split_ands; assumption) (by go_split_ands; assumption) A0.out).mono ?_); rintro e w2 ⟨rfl, hb2⟩)
        | (go_at_call 42; (with_reducible refine (impl_cosine.calls _ _ c1 c2 _ A1.out).mono ?_); rintro e w2 ⟨rfl, hb2⟩)
        | (go_at_call 41; (with_reducible refine (impl_sine.calls _ _ s1 s2 _ A3.out).mono ?_); rintro e w3 ⟨rfl, hb3⟩)
        | (go_at_call 62; (with_reducible refine (impl_up.calls _ _ x _ A2.out).mono ?_); rintro e w4 ⟨rfl, ⟨m4, rfl⟩⟩)
        | (go_at_call 61; (with_reducible refine (impl_down.calls _ _ y _ A4.out).mono ?_); rintro e w5 ⟨rfl, ⟨m5, rfl⟩⟩)))
    all_goals
      go_wp2
      go_ret
      go_split_ands
      exact ⟨by simp [i64_w], Bl.out (by assumption)⟩
set_option maxHeartbeats 2000000 in
set_option maxRecDepth 100000 in
theorem wayOf3.calls (k : Nat) (u r : Int) (e0 f g h : Nat) (a : Int) (b : Bool) (w : World) (he : w.cell? ⟨e0, 0, none⟩ = some (.func (.func 80) #[] #[.pointer (some ⟨f, 0, none⟩), .pointer (some ⟨g, 0, none⟩), .pointer (some ⟨h, 0, none⟩)]))
    (hf : w.cell? ⟨f, 0, none⟩ = some (.func (.func 79) #[] #[.pointer (some ⟨g, 0, none⟩), .pointer (some ⟨h, 0, none⟩)]))
    (hg : w.cell? ⟨g, 0, none⟩ = some (.int .i64 u)) (hh : w.cell? ⟨h, 0, none⟩ = some (.int .i64 r)) (hq : impl_wayOf.q3 k u r a = some b) :
    Calls Try.prog 81 #[.int .i64 a, .pointer (some ⟨e0, 0, none⟩)] w fun e w' => e = .returned (.bool b) ∧ Below w.heap.size w w' := by
  simp only [impl_wayOf.q3, Option.bind_eq_some_iff, Option.some.injEq] at hq
  obtain ⟨b1, h0, rfl⟩ := hq
  have A0 := Aside0.mk h0
  have HF := Aside0.mk hf
  have HG := Aside0.mk hg
  have HH := Aside0.mk hh
  clear h0 hf hg hh
  have HB := Bl.refl w
  go_enter Try.func81, Try.ntmps81
  go_wp2_with (go_at_call 80; (with_reducible refine (wayOf2.calls k u r f g h a b1 _ HF.out HG.out HH.out A0.out).mono ?_); rintro e w2 ⟨rfl, hb2⟩; replace HB := Bl.call hb2 HB)
  go_ret
  exact ⟨rfl, HB.out⟩
set_option maxHeartbeats 1000000 in
set_option maxRecDepth 100000 in
theorem impl_halve.calls_w1 (q : Int → Option Bool) (cap cap' : Value) (I : World → Prop) (hI : ∀ w1 w2, I w1 → Below w1.heap.size w1 w2 → I w2) (hD : ∀ w1 n, I w1 → I (w1.drewN n))
    (hq : ∀ a b w1, I w1 → q a = some b → Calls Try.prog 79 #[.int .i64 a, cap, cap'] w1 fun e w' => e = .returned (.bool b) ∧ Below w1.heap.size w1 w')
    (k : Nat) (lo hi r1 r2 : Int) (w : World) (hw : I w) (h : impl_halve.l0 q k lo hi = some (r1, r2)) :
    Calls Try.prog 75 #[.int .i64 lo, .int .i64 hi, .func (.func 79) #[] #[cap, cap']] w fun e w' => e = .returned (.tuple #[.int .i64 r1, .int .i64 r2]) ∧ Below w.heap.size w w' := by
  have HA := Aside0.mk h
  have HI := Aside0.mk hI
  have HD := Aside0.mk hD
  have HQ := Aside0.mk hq
  have HW := Aside0.mk hw
  clear h hI hD hq hw
  go_enter Try.func75, Try.ntmps75
  go_wp2
  go_loopg [0, 1] k (fun kq v0 v1 w' => ∃ (a b : Int), v0 = .int .i64 a ∧ v1 = .int .i64 b ∧ Aside0 (impl_halve.l0 q kq a b = some (r1, r2)) ∧ Aside0 (kq ≤ k) ∧ Aside0 (I w') ∧ Bl w.heap.size w w')
  case atStart => exact ⟨lo, hi, rfl, rfl, HA, ⟨Nat.le_refl _⟩, HW, Bl.refl w⟩
  case round =>
    clear HA HW
    obtain ⟨a, b, rfl, rfl, HA, HK, HJ, HB⟩ := hrel
    cases gk with
    | zero => exact absurd HA.out (by simp [impl_halve.l0])
    | succ k1 =>
      have H := HA.out
      clear HA
      simp only [impl_halve.l0] at H
      by_cases c1 : wrap64 (b - a) > 1
      · rw [if_pos c1] at H
        have c1b : decide (1 < wrap64 (b - a)) = true := decide_eq_true c1
        clear c1
        simp only [Option.bind_eq_some_iff] at H
        obtain ⟨mid, hm, t, ht, H⟩ := H
        have A1 := Aside0.mk hm
        have A2 := Aside0.mk ht
        clear hm ht
        cases t with
        | true =>
          rw [if_pos rfl] at H
          have HH := Aside0.mk H
          clear H
          go_wp2_with (first
            | (go_at_call 61; (with_reducible refine (impl_down.calls _ _ mid _ A1.out).mono ?_); rintro e w' ⟨rfl, ⟨m1, rfl⟩⟩; replace HB := HB.drewN m1; replace HJ := Aside0.mk (HD.out _ m1 HJ.out))
            | (go_at_call 79; (with_reducible refine (HQ.out mid true _ HJ.out A2.out).mono ?_); rintro e w2 ⟨rfl, hb⟩; replace HB := Bl.call hb HB; replace HJ := Aside0.mk (HI.out _ _ HJ.out hb)))
          go_roundg k1
          case measure => have := HK.out; omega
          case rel => exact ⟨_, _, rfl, rfl, HH, ⟨by have := HK.out; omega⟩, HJ, HB⟩
        | false =>
          rw [if_neg (by decide)] at H
          have HH := Aside0.mk H
          clear H
          go_wp2_with (first
            | (go_at_call 61; (with_reducible refine (impl_down.calls _ _ mid _ A1.out).mono ?_); rintro e w' ⟨rfl, ⟨m1, rfl⟩⟩; replace HB := HB.drewN m1; replace HJ := Aside0.mk (HD.out _ m1 HJ.out))
            | (go_at_call 79; (with_reducible refine (HQ.out mid false _ HJ.out A2.out).mono ?_); rintro e w2 ⟨rfl, hb⟩; replace HB := Bl.call hb HB; replace HJ := Aside0.mk (HI.out _ _ HJ.out hb)))
          go_roundg k1
          case measure => have := HK.out; omega
          case rel => exact ⟨_, _, rfl, rfl, HH, ⟨by have := HK.out; omega⟩, HJ, HB⟩
      · rw [if_neg c1] at H
        have c1b : decide (1 < wrap64 (b - a)) = false := decide_eq_false c1
        clear c1
        simp only [Option.some.injEq, Prod.mk.injEq] at H
        obtain ⟨rfl, rfl⟩ := H
        go_wp2
        go_ret2
        exact ⟨rfl, HB.out⟩
set_option maxHeartbeats 1000000 in
set_option maxRecDepth 100000 in
theorem impl_halve.calls_w3 (q : Int → Option Bool) (cap : Value) (I : World → Prop) (hI : ∀ w1 w2, I w1 → Below w1.heap.size w1 w2 → I w2) (hD : ∀ w1 n, I w1 → I (w1.drewN n))
    (hq : ∀ a b w1, I w1 → q a = some b → Calls Try.prog 81 #[.int .i64 a, cap] w1 fun e w' => e = .returned (.bool b) ∧ Below w1.heap.size w1 w')
    (k : Nat) (lo hi r1 r2 : Int) (w : World) (hw : I w) (h : impl_halve.l0 q k lo hi = some (r1, r2)) :
    Calls Try.prog 75 #[.int .i64 lo, .int .i64 hi, .func (.func 81) #[] #[cap]] w fun e w' => e = .returned (.tuple #[.int .i64 r1, .int .i64 r2]) ∧ Below w.heap.size w w' := by
  have HA := Aside0.mk h
  have HI := Aside0.mk hI
  have HD := Aside0.mk hD
  have HQ := Aside0.mk hq
  have HW := Aside0.mk hw
  clear h hI hD hq hw
  go_enter Try.func75, Try.ntmps75
  go_wp2
  go_loopg [0, 1] k (fun kq v0 v1 w' => ∃ (a b : Int), v0 = .int .i64 a ∧ v1 = .int .i64 b ∧ Aside0 (impl_halve.l0 q kq a b = some (r1, r2)) ∧ Aside0 (kq ≤ k) ∧ Aside0 (I w') ∧ Bl w.heap.size w w')
  case atStart => exact ⟨lo, hi, rfl, rfl, HA, ⟨Nat.le_refl _⟩, HW, Bl.refl w⟩
  case round =>
    clear HA HW
    obtain ⟨a, b, rfl, rfl, HA, HK, HJ, HB⟩ := hrel
    cases gk with
    | zero => exact absurd HA.out (by simp [impl_halve.l0])
    | succ k1 =>
      have H := HA.out
      clear HA
      simp only [impl_halve.l0] at H
      by_cases c1 : wrap64 (b - a) > 1
      · rw [if_pos c1] at H
        have c1b : decide (1 < wrap64 (b - a)) = true := decide_eq_true c1
        clear c1
        simp only [Option.bind_eq_some_iff] at H
        obtain ⟨mid, hm, t, ht, H⟩ := H
        have A1 := Aside0.mk hm
        have A2 := Aside0.mk ht
        clear hm ht
        cases t with
        | true =>
          rw [if_pos rfl] at H
          have HH := Aside0.mk H
          clear H
          go_wp2_with (first
            | (go_at_call 61; (with_reducible refine (impl_down.calls _ _ mid _ A1.out).mono ?_); rintro e w' ⟨rfl, ⟨m1, rfl⟩⟩; replace HB := HB.drewN m1; replace HJ := Aside0.mk (HD.out _ m1 HJ.out))
            | (go_at_call 81; (with_reducible refine (HQ.out mid true _ HJ.out A2.out).mono ?_); rintro e w2 ⟨rfl, hb⟩; replace HB := Bl.call hb HB; replace HJ := Aside0.mk (HI.out _ _ HJ.out hb)))
          go_roundg k1
          case measure => have := HK.out; omega
          case rel => exact ⟨_, _, rfl, rfl, HH, ⟨by have := HK.out; omega⟩, HJ, HB⟩
        | false =>
          rw [if_neg (by decide)] at H
          have HH := Aside0.mk H
          clear H
          go_wp2_with (first
            | (go_at_call 61; (with_reducible refine (impl_down.calls _ _ mid _ A1.out).mono ?_); rintro e w' ⟨rfl, ⟨m1, rfl⟩⟩; replace HB := HB.drewN m1; replace HJ := Aside0.mk (HD.out _ m1 HJ.out))
            | (go_at_call 81; (with_reducible refine (HQ.out mid false _ HJ.out A2.out).mono ?_); rintro e w2 ⟨rfl, hb⟩; replace HB := Bl.call hb HB; replace HJ := Aside0.mk (HI.out _ _ HJ.out hb)))
          go_roundg k1
          case measure => have := HK.out; omega
          case rel => exact ⟨_, _, rfl, rfl, HH, ⟨by have := HK.out; omega⟩, HJ, HB⟩
      · rw [if_neg c1] at H
        have c1b : decide (1 < wrap64 (b - a)) = false := decide_eq_false c1
        clear c1
        simp only [Option.some.injEq, Prod.mk.injEq] at H
        obtain ⟨rfl, rfl⟩ := H
        go_wp2
        go_ret2
        exact ⟨rfl, HB.out⟩

/-- The captured variables' cells. -/
def impl_wayOf.I (p : Nat) (u r : Int) (w' : World) : Prop :=
  w'.cell? ⟨p + 1, 0, none⟩ = some (.int .i64 u) ∧ w'.cell? ⟨p + 1 + 1, 0, none⟩ = some (.int .i64 r) ∧
  w'.cell? ⟨p + 1 + 1 + 1, 0, none⟩ = some (.func (.func 79) #[] #[.pointer (some ⟨p + 1, 0, none⟩), .pointer (some ⟨p + 1 + 1, 0, none⟩)]) ∧
  w'.cell? ⟨p + 1 + 1 + 1 + 1, 0, none⟩ = some (.func (.func 80) #[] #[.pointer (some ⟨p + 1 + 1 + 1, 0, none⟩), .pointer (some ⟨p + 1, 0, none⟩), .pointer (some ⟨p + 1 + 1, 0, none⟩)])
theorem impl_wayOf.I.call {p : Nat} {u r : Int} (w1 w2 : World) (h : impl_wayOf.I p u r w1) (hb : Below w1.heap.size w1 w2) : impl_wayOf.I p u r w2 :=
  ⟨cell_call hb h.1, cell_call hb h.2.1, cell_call hb h.2.2.1, cell_call hb h.2.2.2⟩
theorem impl_wayOf.I.drewN {p : Nat} {u r : Int} (w1 : World) (n : Nat) (h : impl_wayOf.I p u r w1) : impl_wayOf.I p u r (w1.drewN n) := by
  obtain ⟨h1, h2, h3, h4⟩ := h
  exact ⟨by simpa using h1, by simpa using h2, by simpa using h3, by simpa using h4⟩
def impl_wayOf.f (k : Nat) (a0 a1 : Int) : Option (Int × Int) :=
  (impl_halve.l0 (impl_wayOf.q1 k (mx a0 (wrap64 (-a0))) (mx a1 (wrap64 (-a1)))) k 0 32400000).bind fun x => (impl_halve.l0 (impl_wayOf.q3 k (mx a0 (wrap64 (-a0))) (mx a1 (wrap64 (-a1)))) k 0 32400000).bind fun y =>
  if a1 < 0 then (if a0 < 0 then some (wrap64 (-(wrap64 (64800000 - x.1))), wrap64 (-(wrap64 (64800000 - y.2)))) else some (wrap64 (64800000 - y.2), wrap64 (64800000 - x.1)))
  else (if a0 < 0 then some (wrap64 (-y.2), wrap64 (-x.1)) else some (x.1, y.2))
theorem impl_wayOf.mono : ∀ a0 a1 k, LeO (impl_wayOf.f k a0 a1) (impl_wayOf.f (k + 1) a0 a1) := by
  intro a0 a1 k
  unfold impl_wayOf.f
  exact LeO.bind (impl_halve.mono _ _ (fun a => impl_wayOf.mono1 _ _ _ _) _ _ _) (fun _ => LeO.bind (impl_halve.mono _ _ (fun a => impl_wayOf.mono3 _ _ _ _) _ _ _) (fun _ => LeO.refl _))
set_option maxHeartbeats 4000000 in
set_option maxRecDepth 100000 in
theorem impl_wayOf.calls (k : Nat) (a0 a1 : Int) (r1 : Int) (r2 : Int) (w : World) (h : impl_wayOf.f k a0 a1 = some (r1, r2)) :
    Calls Try.prog 57 #[.int .i64 a0, .int .i64 a1] w fun e w' => e = .returned (.agg #[.int .i64 r1, .int .i64 r2]) ∧ Below w.heap.size w w' := by
  have hu := Try.underlying30
  simp only [impl_wayOf.f, Option.bind_eq_some_iff] at h
  obtain ⟨⟨x1, x2⟩, h1, ⟨y1, y2⟩, h2, h⟩ := h
  obtain ⟨u, hu0⟩ : ∃ u, mx a0 (wrap64 (-a0)) = u := ⟨_, rfl⟩
  obtain ⟨r, hr0⟩ : ∃ r, mx a1 (wrap64 (-a1)) = r := ⟨_, rfl⟩
  rw [hu0, hr0] at h1 h2
  have U := Aside0.mk hu0
  have R := Aside0.mk hr0
  have A1 := Aside0.mk h1
  have A2 := Aside0.mk h2
  have A3 := Aside0.mk h
  have hu1 : (if a0 < wrap64 (-a0) then wrap64 (-a0) else a0) = u := hu0
  have hr1 : (if a1 < wrap64 (-a1) then wrap64 (-a1) else a1) = r := hr0
  clear h1 h2 h hu0 hr0
  have HB := Bl.refl w
  have hmf : ∀ (fn : Fn) (first cap : Array Value) (w : World), (Instr.makeFunc fn first cap).run Try.prog w = .ok (.func fn first cap) w := fun _ _ _ _ => rfl
  go_enter Try.func57, Try.ntmps57
  go_wp2_with fail
  have HI : Aside0 (impl_wayOf.I w.heap.size u r (((((w.alloc (.cells #[.int .i64 0, .int .i64 0] 30 (0, 0))).alloc (.cells #[.int .i64 u] 3 (0, 0))).alloc (.cells #[.int .i64 r] 3 (0, 0))).alloc
      (.cells #[.func (.func 79) #[] #[.pointer (some ⟨w.heap.size + 1, 0, none⟩), .pointer (some ⟨w.heap.size + 1 + 1, 0, none⟩)]] 48 (0, 0))).alloc
      (.cells #[.func (.func 80) #[] #[.pointer (some ⟨w.heap.size + 1 + 1 + 1, 0, none⟩), .pointer (some ⟨w.heap.size + 1, 0, none⟩), .pointer (some ⟨w.heap.size + 1 + 1, 0, none⟩)]] 48 (0, 0)))) := ⟨by
    unfold impl_wayOf.I
    go_simp⟩
  have BK := Aside0.mk (blk_alloc (blk_alloc (blk_alloc (blk_alloc (blk_new w (.cells #[.int .i64 0, .int .i64 0] 30 (0, 0))) (.cells #[.int .i64 u] 3 (0, 0))) (.cells #[.int .i64 r] 3 (0, 0)))
      (.cells #[.func (.func 79) #[] #[.pointer (some ⟨w.heap.size + 1, 0, none⟩), .pointer (some ⟨w.heap.size + 1 + 1, 0, none⟩)]] 48 (0, 0)))
      (.cells #[.func (.func 80) #[] #[.pointer (some ⟨w.heap.size + 1 + 1 + 1, 0, none⟩), .pointer (some ⟨w.heap.size + 1, 0, none⟩), .pointer (some ⟨w.heap.size + 1 + 1, 0, none⟩)]] 48 (0, 0)))
  replace HB := ((((HB.alloc (.cells #[.int .i64 0, .int .i64 0] 30 (0, 0))).alloc (.cells #[.int .i64 u] 3 (0, 0))).alloc (.cells #[.int .i64 r] 3 (0, 0))).alloc
      (.cells #[.func (.func 79) #[] #[.pointer (some ⟨w.heap.size + 1, 0, none⟩), .pointer (some ⟨w.heap.size + 1 + 1, 0, none⟩)]] 48 (0, 0))).alloc
      (.cells #[.func (.func 80) #[] #[.pointer (some ⟨w.heap.size + 1 + 1 + 1, 0, none⟩), .pointer (some ⟨w.heap.size + 1, 0, none⟩), .pointer (some ⟨w.heap.size + 1 + 1, 0, none⟩)]] 48 (0, 0))
  clear hmf
  refine (impl_halve.calls_w1 (impl_wayOf.q1 k u r) _ _ (impl_wayOf.I w.heap.size u r) impl_wayOf.I.call impl_wayOf.I.drewN (fun a b w1 hc hq => wayOf1.calls k u r _ _ a b w1 hc.1 hc.2.1 hq) k _ _ x1 x2 _ HI.out A1.out).mono ?_
  rintro e w1 ⟨rfl, hb1⟩
  replace HI := Aside0.mk (HI.out.call _ _ hb1)
  replace BK := Aside0.mk (blk_below BK.out hb1)
  replace HB := Bl.call hb1 HB
  clear hb1
  have hmf : ∀ (fn : Fn) (first cap : Array Value) (w : World), (Instr.makeFunc fn first cap).run Try.prog w = .ok (.func fn first cap) w := fun _ _ _ _ => rfl
  go_wp2_with fail
  clear hmf
  refine (impl_halve.calls_w3 (impl_wayOf.q3 k u r) _ (impl_wayOf.I w.heap.size u r) impl_wayOf.I.call impl_wayOf.I.drewN (fun a b w1 hc hq => wayOf3.calls k u r _ _ _ _ a b w1 hc.2.2.2 hc.2.2.1 hc.1 hc.2.1 hq) k _ _ y1 y2 _ HI.out A2.out).mono ?_
  rintro e w2 ⟨rfl, hb2⟩
  replace BK := Aside0.mk (blk_below BK.out hb2)
  replace HB := Bl.call hb2 HB
  clear hb2 HI hu1 hr1
  have hlt : w.heap.size < w2.heap.size := blk_lt BK.out
  have hcz0 : w2.cell? ⟨w.heap.size, 0, none⟩ = some (.int .i64 0) := (blk_cell BK.out 0).trans rfl
  have hcz1 : w2.cell? ⟨w.heap.size, 1, none⟩ = some (.int .i64 0) := (blk_cell BK.out 1).trans rfl
  have hfz0 : w2.frozen? ⟨w.heap.size, 0, none⟩ = false := blk_frozen BK.out 0
  have hfz1 : w2.frozen? ⟨w.heap.size, 1, none⟩ = false := blk_frozen BK.out 1
  by_cases c1 : a1 < 0
  · have c1b : decide (a1 < 0) = true := decide_eq_true c1
    by_cases c0 : a0 < 0
    · have c0b : decide (a0 < 0) = true := decide_eq_true c0
      have H := A3.out
      rw [if_pos c1, if_pos c0] at H
      simp only [Option.some.injEq, Prod.mk.injEq] at H
      obtain ⟨rfl, rfl⟩ := H
      clear c1 c0 A3
      go_wp2
      refine bodyPost_ret (results_cell_row rfl _ _ w.heap.size 30 #[.int .i64 (wrap64 (-(wrap64 (64800000 - x1)))), .int .i64 (wrap64 (-(wrap64 (64800000 - y2))))] (0, 0) _ rfl ?_ hu rfl (by kernel_rfl)) rfl ⟨rfl, ?_⟩
      · exact blk_alloc (blk_put (blk_put BK.out 0 _ rfl) 1 _ rfl) _
      · exact ((Bl.set (Nat.le_refl _) (Bl.set (Nat.le_refl _) HB)).alloc _).out
    · have c0b : decide (a0 < 0) = false := decide_eq_false c0
      have H := A3.out
      rw [if_pos c1, if_neg c0] at H
      simp only [Option.some.injEq, Prod.mk.injEq] at H
      obtain ⟨rfl, rfl⟩ := H
      clear c1 c0 A3
      go_wp2
      refine bodyPost_ret (results_cell_row rfl _ _ w.heap.size 30 #[.int .i64 (wrap64 (64800000 - y2)), .int .i64 (wrap64 (64800000 - x1))] (0, 0) _ rfl ?_ hu rfl (by kernel_rfl)) rfl ⟨rfl, ?_⟩
      · exact blk_alloc (blk_put (blk_put BK.out 0 _ rfl) 1 _ rfl) _
      · exact ((Bl.set (Nat.le_refl _) (Bl.set (Nat.le_refl _) HB)).alloc _).out
  · have c1b : decide (a1 < 0) = false := decide_eq_false c1
    by_cases c0 : a0 < 0
    · have c0b : decide (a0 < 0) = true := decide_eq_true c0
      have H := A3.out
      rw [if_neg c1, if_pos c0] at H
      simp only [Option.some.injEq, Prod.mk.injEq] at H
      obtain ⟨rfl, rfl⟩ := H
      clear c1 c0 A3
      go_wp2
      refine bodyPost_ret (results_cell_row rfl _ _ w.heap.size 30 #[.int .i64 (wrap64 (-y2)), .int .i64 (wrap64 (-x1))] (0, 0) _ rfl ?_ hu rfl (by kernel_rfl)) rfl ⟨rfl, ?_⟩
      · exact blk_alloc (blk_put (blk_put BK.out 0 _ rfl) 1 _ rfl) _
      · exact ((Bl.set (Nat.le_refl _) (Bl.set (Nat.le_refl _) HB)).alloc _).out
    · have c0b : decide (a0 < 0) = false := decide_eq_false c0
      have H := A3.out
      rw [if_neg c1, if_neg c0] at H
      simp only [Option.some.injEq, Prod.mk.injEq] at H
      obtain ⟨rfl, rfl⟩ := H
      clear c1 c0 A3
      go_wp2
      refine bodyPost_ret (results_cell_row rfl _ _ w.heap.size 30 #[.int .i64 (x1), .int .i64 (y2)] (0, 0) _ rfl ?_ hu rfl (by kernel_rfl)) rfl ⟨rfl, ?_⟩
      · exact blk_alloc (blk_put (blk_put BK.out 0 _ rfl) 1 _ rfl) _
      · exact ((Bl.set (Nat.le_refl _) (Bl.set (Nat.le_refl _) HB)).alloc _).out

/-! ### impl_WayOf: function 30 -/
def impl_WayOf.f (k : Nat) (a0 : Int) (a1 : Int) : Option (Int × Int × Bool) := (impl_isPart.f a0).bind fun t226 => (if t226 = true then ((impl_isPart.f a1).bind fun t227 => (if t227 = true then (if a0 = 0 then (if a1 = 0 then (some (0, 0, false)) else ((impl_wayOf.f k a0 a1).bind fun bt228 => (some (bt228.1, bt228.2, true)))) else ((impl_wayOf.f k a0 a1).bind fun bt230 => (some (bt230.1, bt230.2, true)))) else (some (0, 0, false)))) else (some (0, 0, false)))
theorem impl_WayOf.mono : ∀ a0 a1 k, LeO (impl_WayOf.f k a0 a1) (impl_WayOf.f (k + 1) a0 a1) := by
 intro a0 a1 k
 unfold impl_WayOf.f
 repeat' first
   | (with_reducible exact impl_wayOf.mono _ _ _)
   | (with_reducible exact LeO.refl _)
   | (with_reducible exact LeO.none _)
   | (with_reducible refine LeO.ite ?_ ?_)
   | (with_reducible refine LeO.bind ?_ (fun _ => ?_))
   | exact impl_wayOf.mono _ _ _
   | exact LeO.none _
   | refine LeO.ite ?_ ?_
   | refine LeO.bind ?_ (fun _ => ?_)
set_option maxHeartbeats 8000000 in
set_option maxRecDepth 100000 in
theorem impl_WayOf.calls (k : Nat) (a0 : Int) (a1 : Int) (r1 : Int) (r2 : Int) (r3 : Bool) (w : World) (h : impl_WayOf.f k a0 a1 = some (r1, r2, r3)) :
  Calls Try.prog 30 #[.int .i64 a0, .int .i64 a1] w fun e w' => e = .returned (.tuple #[.agg #[.int .i64 r1, .int .i64 r2], .bool r3]) ∧ Below w.heap.size w w' := by
 have hu30 := Try.underlying30
 have HB := Aside0.mk (Below.refl w.heap.size w)
 have H : ((impl_isPart.f a0).bind fun t226 => (if t226 = true then ((impl_isPart.f a1).bind fun t227 => (if t227 = true then (if a0 = 0 then (if a1 = 0 then (some (0, 0, false)) else ((impl_wayOf.f k a0 a1).bind fun bt228 => (some (bt228.1, bt228.2, true)))) else ((impl_wayOf.f k a0 a1).bind fun bt230 => (some (bt230.1, bt230.2, true)))) else (some (0, 0, false)))) else (some (0, 0, false)))) = some (r1, r2, r3) := h
 clear h
 replace H := Option.bind_eq_some_iff.mp H
 obtain ⟨t226, A30, H⟩ := H
 replace H : (if t226 = true then ((impl_isPart.f a1).bind fun t227 => (if t227 = true then (if a0 = 0 then (if a1 = 0 then (some (0, 0, false)) else ((impl_wayOf.f k a0 a1).bind fun bt228 => (some (bt228.1, bt228.2, true)))) else ((impl_wayOf.f k a0 a1).bind fun bt230 => (some (bt230.1, bt230.2, true)))) else (some (0, 0, false)))) else (some (0, 0, false))) = some (r1, r2, r3) := H
 have A3 := Aside0.mk A30
 clear A30
 by_cases c4 : t226 = true
 ·subst c4
  have H1 : ((impl_isPart.f a1).bind fun t227 => (if t227 = true then (if a0 = 0 then (if a1 = 0 then (some (0, 0, false)) else ((impl_wayOf.f k a0 a1).bind fun bt228 => (some (bt228.1, bt228.2, true)))) else ((impl_wayOf.f k a0 a1).bind fun bt230 => (some (bt230.1, bt230.2, true)))) else (some (0, 0, false)))) = some (r1, r2, r3) := by rw [if_pos rfl] at H; exact H
  clear H
  have H := H1
  clear H1
  replace H := Option.bind_eq_some_iff.mp H
  obtain ⟨t227, A50, H⟩ := H
  replace H : (if t227 = true then (if a0 = 0 then (if a1 = 0 then (some (0, 0, false)) else ((impl_wayOf.f k a0 a1).bind fun bt228 => (some (bt228.1, bt228.2, true)))) else ((impl_wayOf.f k a0 a1).bind fun bt230 => (some (bt230.1, bt230.2, true)))) else (some (0, 0, false))) = some (r1, r2, r3) := H
  have A5 := Aside0.mk A50
  clear A50
  by_cases c6 : t227 = true
  ·subst c6
   have H1 : (if a0 = 0 then (if a1 = 0 then (some (0, 0, false)) else ((impl_wayOf.f k a0 a1).bind fun bt228 => (some (bt228.1, bt228.2, true)))) else ((impl_wayOf.f k a0 a1).bind fun bt230 => (some (bt230.1, bt230.2, true)))) = some (r1, r2, r3) := by rw [if_pos rfl] at H; exact H
   clear H
   have H := H1
   clear H1
   by_cases c7 : a0 = 0
   ·rw [if_pos c7] at H
    have c7b0 : (a0 == 0) = true := beq_iff_eq.mpr c7
    have c7b1 : (a0 != 0) = false := bne_eq_false_iff_eq.mpr c7
    clear c7
    by_cases c8 : a1 = 0
    ·rw [if_pos c8] at H
     have c8b0 : (a1 == 0) = true := beq_iff_eq.mpr c8
     have c8b1 : (a1 != 0) = false := bne_eq_false_iff_eq.mpr c8
     clear c8
     simp only [Option.some.injEq, Prod.mk.injEq] at H
     obtain ⟨rfl, rfl, rfl⟩ := H
     go_enter Try.func30, Try.ntmps30
     go_wp2_with (first | ((with_reducible refine gate_dst (N := 4) rfl ?_); refine bE 4 #[.int .i64 0, .int .i64 0] 30 ?_; intro gb225 hg w9 hbox hb; have BK225 := Aside0.mk (hbox); have GE225 := gw hg (h0_ HB); have GW225 := GE225; replace HB := hbb (h0_ HB) hb; clear hb hbox hg) | ((with_reducible refine gate_callee (f := 50) rfl ?_); refine gL 7 Try.func50 #[.int .i64 a0] ?_; (with_reducible refine (impl_isPart.calls a0 true _ A3.out).mono ?_); rintro e w' ⟨rfl, ⟨nd, rfl⟩⟩; refine ⟨_, rfl, ?_⟩; (try (rw [drewN_self w9]; generalize hq_ : World.drewN w9 _ = w9; have n0_ : Aside0 (w9.heap[gb225]? = some (.cells #[.int .i64 0, .int .i64 0] 30 (0, 0))) := ⟨by rw [← hq_]; exact (bk BK225)⟩; have n1_ : Aside0 (Below w.heap.size w w9) := ⟨by rw [← hq_]; exact (hs_ HB)⟩; clear BK225 HB hq_; have BK225 := n0_; have HB := n1_; clear n0_ n1_))) | (go_at_call 50; (with_reducible refine (impl_isPart.calls a1 true _ A5.out).mono ?_); rintro e w' ⟨rfl, ⟨nd, rfl⟩⟩; (try (rw [drewN_self w9]; generalize hq_ : World.drewN w9 _ = w9; have n0_ : Aside0 (w9.heap[gb225]? = some (.cells #[.int .i64 0, .int .i64 0] 30 (0, 0))) := ⟨by rw [← hq_]; exact (bk BK225)⟩; have n1_ : Aside0 (Below w.heap.size w w9) := ⟨by rw [← hq_]; exact (hs_ HB)⟩; clear BK225 HB hq_; have BK225 := n0_; have HB := n1_; clear n0_ n1_)); obtain ⟨hcz10_0, hcz10_1, hfz10_0, hfz10_1⟩ := cz2 BK225))
     refine bodyPost_ret (results_ct rfl _ _ gb225 30 #[.int .i64 0, .int .i64 0] (0, 0) _ rfl (bkp BK225) Try.underlying30 rfl (by kernel_rfl)) rfl ?_
     exact ⟨by first | rfl | (simp [errW_none, errW_some] <;> rfl) | (simp [*, errW_none, errW_some] <;> rfl), hs_ HB⟩
    ·rw [if_neg c8] at H
     have c8b0 : (a1 == 0) = false := beq_eq_false_iff_ne.mpr c8
     have c8b1 : (a1 != 0) = true := bne_iff_ne.mpr c8
     replace H := Option.bind_eq_some_iff.mp H
     obtain ⟨⟨t228, t229⟩, A110, H⟩ := H
     replace H : (some (t228, t229, true)) = some (r1, r2, r3) := H
     have A11 := Aside0.mk A110
     clear A110
     simp only [Option.some.injEq, Prod.mk.injEq] at H
     obtain ⟨rfl, rfl, rfl⟩ := H
     go_enter Try.func30, Try.ntmps30
     go_wp2_with (first | ((with_reducible refine gate_dst (N := 4) rfl ?_); refine bE 4 #[.int .i64 0, .int .i64 0] 30 ?_; intro gb225 hg w12 hbox hb; have BK225 := Aside0.mk (hbox); have GE225 := gw hg (h0_ HB); have GW225 := GE225; replace HB := hbb (h0_ HB) hb; clear hb hbox hg) | ((with_reducible refine gate_callee (f := 50) rfl ?_); refine gL 7 Try.func50 #[.int .i64 a0] ?_; (with_reducible refine (impl_isPart.calls a0 true _ A3.out).mono ?_); rintro e w' ⟨rfl, ⟨nd, rfl⟩⟩; refine ⟨_, rfl, ?_⟩; (try (rw [drewN_self w12]; generalize hq_ : World.drewN w12 _ = w12; have n0_ : Aside0 (w12.heap[gb225]? = some (.cells #[.int .i64 0, .int .i64 0] 30 (0, 0))) := ⟨by rw [← hq_]; exact (bk BK225)⟩; have n1_ : Aside0 (Below w.heap.size w w12) := ⟨by rw [← hq_]; exact (hs_ HB)⟩; clear BK225 HB hq_; have BK225 := n0_; have HB := n1_; clear n0_ n1_))) | (go_at_call 50; (with_reducible refine (impl_isPart.calls a1 true _ A5.out).mono ?_); rintro e w' ⟨rfl, ⟨nd, rfl⟩⟩; (try (rw [drewN_self w12]; generalize hq_ : World.drewN w12 _ = w12; have n0_ : Aside0 (w12.heap[gb225]? = some (.cells #[.int .i64 0, .int .i64 0] 30 (0, 0))) := ⟨by rw [← hq_]; exact (bk BK225)⟩; have n1_ : Aside0 (Below w.heap.size w w12) := ⟨by rw [← hq_]; exact (hs_ HB)⟩; clear BK225 HB hq_; have BK225 := n0_; have HB := n1_; clear n0_ n1_))) | ((with_reducible refine gate_callee (f := 57) rfl ?_); refine gL 25 Try.func57 #[.int .i64 a0, .int .i64 a1] ?_; (with_reducible refine (impl_wayOf.calls k a0 a1 t228 t229 _ A11.out).mono ?_); rintro e w13 ⟨rfl, hb⟩; refine ⟨_, rfl, ?_⟩; replace BK225 := bb (bk BK225) hb; replace HB := hbb (hs_ HB) hb; clear hb; obtain ⟨hcz14_0, hcz14_1, hfz14_0, hfz14_1⟩ := cz2 BK225))
     refine bodyPost_ret (results_ct rfl _ _ gb225 30 #[.int .i64 t228, .int .i64 t229] (0, 0) _ rfl (bkp BK225) Try.underlying30 rfl (by kernel_rfl)) rfl ?_
     exact ⟨by first | rfl | (simp [errW_none, errW_some] <;> rfl) | (simp [*, errW_none, errW_some] <;> rfl), hs_ HB⟩
   ·rw [if_neg c7] at H
    have c7b0 : (a0 == 0) = false := beq_eq_false_iff_ne.mpr c7
    have c7b1 : (a0 != 0) = true := bne_iff_ne.mpr c7
    replace H := Option.bind_eq_some_iff.mp H
    obtain ⟨⟨t230, t231⟩, A150, H⟩ := H
    replace H : (some (t230, t231, true)) = some (r1, r2, r3) := H
    have A15 := Aside0.mk A150
    clear A150
    simp only [Option.some.injEq, Prod.mk.injEq] at H
    obtain ⟨rfl, rfl, rfl⟩ := H
    go_enter Try.func30, Try.ntmps30
    go_wp2_with (first | ((with_reducible refine gate_dst (N := 4) rfl ?_); refine bE 4 #[.int .i64 0, .int .i64 0] 30 ?_; intro gb225 hg w16 hbox hb; have BK225 := Aside0.mk (hbox); have GE225 := gw hg (h0_ HB); have GW225 := GE225; replace HB := hbb (h0_ HB) hb; clear hb hbox hg) | ((with_reducible refine gate_callee (f := 50) rfl ?_); refine gL 7 Try.func50 #[.int .i64 a0] ?_; (with_reducible refine (impl_isPart.calls a0 true _ A3.out).mono ?_); rintro e w' ⟨rfl, ⟨nd, rfl⟩⟩; refine ⟨_, rfl, ?_⟩; (try (rw [drewN_self w16]; generalize hq_ : World.drewN w16 _ = w16; have n0_ : Aside0 (w16.heap[gb225]? = some (.cells #[.int .i64 0, .int .i64 0] 30 (0, 0))) := ⟨by rw [← hq_]; exact (bk BK225)⟩; have n1_ : Aside0 (Below w.heap.size w w16) := ⟨by rw [← hq_]; exact (hs_ HB)⟩; clear BK225 HB hq_; have BK225 := n0_; have HB := n1_; clear n0_ n1_))) | (go_at_call 50; (with_reducible refine (impl_isPart.calls a1 true _ A5.out).mono ?_); rintro e w' ⟨rfl, ⟨nd, rfl⟩⟩; (try (rw [drewN_self w16]; generalize hq_ : World.drewN w16 _ = w16; have n0_ : Aside0 (w16.heap[gb225]? = some (.cells #[.int .i64 0, .int .i64 0] 30 (0, 0))) := ⟨by rw [← hq_]; exact (bk BK225)⟩; have n1_ : Aside0 (Below w.heap.size w w16) := ⟨by rw [← hq_]; exact (hs_ HB)⟩; clear BK225 HB hq_; have BK225 := n0_; have HB := n1_; clear n0_ n1_))) | ((with_reducible refine gate_callee (f := 57) rfl ?_); refine gL 25 Try.func57 #[.int .i64 a0, .int .i64 a1] ?_; (with_reducible refine (impl_wayOf.calls k a0 a1 t230 t231 _ A15.out).mono ?_); rintro e w17 ⟨rfl, hb⟩; refine ⟨_, rfl, ?_⟩; replace BK225 := bb (bk BK225) hb; replace HB := hbb (hs_ HB) hb; clear hb; obtain ⟨hcz18_0, hcz18_1, hfz18_0, hfz18_1⟩ := cz2 BK225))
    refine bodyPost_ret (results_ct rfl _ _ gb225 30 #[.int .i64 t230, .int .i64 t231] (0, 0) _ rfl (bkp BK225) Try.underlying30 rfl (by kernel_rfl)) rfl ?_
    exact ⟨by first | rfl | (simp [errW_none, errW_some] <;> rfl) | (simp [*, errW_none, errW_some] <;> rfl), hs_ HB⟩
  ·replace c6 := Bool.eq_false_iff.mpr c6
   subst c6
   have H1 : (some (0, 0, false)) = some (r1, r2, r3) := by rw [if_neg (show ¬ (false = true) by decide)] at H; exact H
   clear H
   have H := H1
   clear H1
   simp only [Option.some.injEq, Prod.mk.injEq] at H
   obtain ⟨rfl, rfl, rfl⟩ := H
   go_enter Try.func30, Try.ntmps30
   go_wp2_with (first | ((with_reducible refine gate_dst (N := 4) rfl ?_); refine bE 4 #[.int .i64 0, .int .i64 0] 30 ?_; intro gb225 hg w19 hbox hb; have BK225 := Aside0.mk (hbox); have GE225 := gw hg (h0_ HB); have GW225 := GE225; replace HB := hbb (h0_ HB) hb; clear hb hbox hg) | ((with_reducible refine gate_callee (f := 50) rfl ?_); refine gL 7 Try.func50 #[.int .i64 a0] ?_; (with_reducible refine (impl_isPart.calls a0 true _ A3.out).mono ?_); rintro e w' ⟨rfl, ⟨nd, rfl⟩⟩; refine ⟨_, rfl, ?_⟩; (try (rw [drewN_self w19]; generalize hq_ : World.drewN w19 _ = w19; have n0_ : Aside0 (w19.heap[gb225]? = some (.cells #[.int .i64 0, .int .i64 0] 30 (0, 0))) := ⟨by rw [← hq_]; exact (bk BK225)⟩; have n1_ : Aside0 (Below w.heap.size w w19) := ⟨by rw [← hq_]; exact (hs_ HB)⟩; clear BK225 HB hq_; have BK225 := n0_; have HB := n1_; clear n0_ n1_))) | (go_at_call 50; (with_reducible refine (impl_isPart.calls a1 false _ A5.out).mono ?_); rintro e w' ⟨rfl, ⟨nd, rfl⟩⟩; (try (rw [drewN_self w19]; generalize hq_ : World.drewN w19 _ = w19; have n0_ : Aside0 (w19.heap[gb225]? = some (.cells #[.int .i64 0, .int .i64 0] 30 (0, 0))) := ⟨by rw [← hq_]; exact (bk BK225)⟩; have n1_ : Aside0 (Below w.heap.size w w19) := ⟨by rw [← hq_]; exact (hs_ HB)⟩; clear BK225 HB hq_; have BK225 := n0_; have HB := n1_; clear n0_ n1_)); obtain ⟨hcz20_0, hcz20_1, hfz20_0, hfz20_1⟩ := cz2 BK225))
   refine bodyPost_ret (results_ct rfl _ _ gb225 30 #[.int .i64 0, .int .i64 0] (0, 0) _ rfl (bkp BK225) Try.underlying30 rfl (by kernel_rfl)) rfl ?_
   exact ⟨by first | rfl | (simp [errW_none, errW_some] <;> rfl) | (simp [*, errW_none, errW_some] <;> rfl), hs_ HB⟩
 ·replace c4 := Bool.eq_false_iff.mpr c4
  subst c4
  have H1 : (some (0, 0, false)) = some (r1, r2, r3) := by rw [if_neg (show ¬ (false = true) by decide)] at H; exact H
  clear H
  have H := H1
  clear H1
  simp only [Option.some.injEq, Prod.mk.injEq] at H
  obtain ⟨rfl, rfl, rfl⟩ := H
  go_enter Try.func30, Try.ntmps30
  go_wp2_with (first | ((with_reducible refine gate_dst (N := 4) rfl ?_); refine bE 4 #[.int .i64 0, .int .i64 0] 30 ?_; intro gb225 hg w21 hbox hb; have BK225 := Aside0.mk (hbox); have GE225 := gw hg (h0_ HB); have GW225 := GE225; replace HB := hbb (h0_ HB) hb; clear hb hbox hg) | ((with_reducible refine gate_callee (f := 50) rfl ?_); refine gL 7 Try.func50 #[.int .i64 a0] ?_; (with_reducible refine (impl_isPart.calls a0 false _ A3.out).mono ?_); rintro e w' ⟨rfl, ⟨nd, rfl⟩⟩; refine ⟨_, rfl, ?_⟩; (try (rw [drewN_self w21]; generalize hq_ : World.drewN w21 _ = w21; have n0_ : Aside0 (w21.heap[gb225]? = some (.cells #[.int .i64 0, .int .i64 0] 30 (0, 0))) := ⟨by rw [← hq_]; exact (bk BK225)⟩; have n1_ : Aside0 (Below w.heap.size w w21) := ⟨by rw [← hq_]; exact (hs_ HB)⟩; clear BK225 HB hq_; have BK225 := n0_; have HB := n1_; clear n0_ n1_)); obtain ⟨hcz22_0, hcz22_1, hfz22_0, hfz22_1⟩ := cz2 BK225))
  refine bodyPost_ret (results_ct rfl _ _ gb225 30 #[.int .i64 0, .int .i64 0] (0, 0) _ rfl (bkp BK225) Try.underlying30 rfl (by kernel_rfl)) rfl ?_
  exact ⟨by first | rfl | (simp [errW_none, errW_some] <;> rfl) | (simp [*, errW_none, errW_some] <;> rfl), hs_ HB⟩


end Go.Proofs.Ytcdgplkmahabiaa.M

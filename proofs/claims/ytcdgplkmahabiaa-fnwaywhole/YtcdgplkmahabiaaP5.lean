import Derived.Test.YtcdgplkmahabiaaP4
import Derived.Test.YtcdgplkmahabiaaMj
import Derived.Test.YtcdgplkmahabiaaNe
namespace Go.Proofs.Ytcdgplkmahabiaa.M
open Go.RowKit Go.Proofs.YtcdgplkmahabiaaW.PrintWords Go.Proofs.YtcdgplkmahabiaaW.PrintLast Go.Proofs.YtcdgplkmahabiaaW.PrintMore
attribute [local go_sem] max2_int min2_int max_two min_two max_three min_three max_four min_four
attribute [local go_sem high] eqA23 eqA30
attribute [local go_sem] fld23_0 fld23_1 fld30_0 fld30_1 fld55_0 fld55_1 fld55_2 fld55_3 fld55_4
set_option linter.unusedVariables false
set_option linter.unusedSimpArgs false
/-! ### ways -/
def cosM (a : Int) : Int × Int := sineM (2 * a + 64800000)
theorem cos_swap (a : Int) : cosM (32400000 - a) = sineM (2 * a) ∧ sineM (2 * (32400000 - a)) = cosM a := by
  unfold cosM
  have r1 := sine_refl (2 * a)
  have r2 := sine_refl (2 * a + 64800000)
  have e1 : 129600000 - 2 * a = 2 * (32400000 - a) + 64800000 := by omega
  have e2 : 129600000 - (2 * a + 64800000) = 2 * (32400000 - a) := by omega
  rw [e1] at r1
  rw [e2] at r2
  exact ⟨r1, r2⟩
theorem cos_fall {a b : Int} (h0 : 0 ≤ a) (h : a < b) (h1 : b ≤ 32400000) : (cosM b).1 < (cosM a).2 := by
  rw [← (cos_swap b).2, ← (cos_swap a).2]
  exact sine_grow (by omega) (by omega) (by omega)
def wayL (u r a : Int) : Int := u * (cosM a).1 / 1000000000 - upd (r * (sineM (2 * a)).2) 1000000000
def wayH (u r a : Int) : Int := upd (u * (cosM a).2) 1000000000 - r * (sineM (2 * a)).1 / 1000000000
def wayP (u r a : Int) : Bool := decide (0 ≤ wayL u r a)
def wayN (u r a : Int) : Bool := wayP u r a || !decide (wayH u r a ≤ 0)
def quartW (u r : Int) : Int × Int := ((halveM (wayP u r) 40 0 32400000).1, (halveM (wayN u r) 40 0 32400000).2)
theorem wayN_false {u r a : Int} (h : wayN u r a = false) : wayH u r a ≤ 0 := by
  unfold wayN at h
  simp only [Bool.or_eq_false_iff, Bool.not_eq_false', decide_eq_true_eq] at h
  exact h.2
theorem quartW_tells {u r : Int} (hu : 0 ≤ u) (hr : 0 ≤ r) :
    0 ≤ (quartW u r).1 ∧ (quartW u r).1 ≤ 32400000 ∧ 0 ≤ (quartW u r).2 ∧ (quartW u r).2 ≤ 32400000 ∧
    r * (sineM (2 * (quartW u r).1)).2 ≤ u * (cosM (quartW u r).1).1 ∧ u * (cosM (quartW u r).2).2 ≤ r * (sineM (2 * (quartW u r).2)).1 := by
  obtain ⟨a1, a2, a3, a4, -⟩ := halveM_tells (wayP u r) 30 40 0 32400000 (by omega) (by omega) (by omega)
  obtain ⟨b1, b2, b3, -, b5⟩ := halveM_tells (wayN u r) 30 40 0 32400000 (by omega) (by omega) (by omega)
  have z1 : sineM (2 * 0) = (0, 0) := by decide +kernel
  have z2 : cosM 0 = (1000000000, 1000000000) := by decide +kernel
  have z3 : sineM (2 * 32400000) = (1000000000, 1000000000) := by decide +kernel
  have z4 : cosM 32400000 = (0, 0) := by decide +kernel
  have lo : r * (sineM (2 * (quartW u r).1)).2 ≤ u * (cosM (quartW u r).1).1 := by
    rcases a4 with h | h
    · have e : (quartW u r).1 = 0 := h
      rw [e, z1, z2]
      have : 0 ≤ u * 1000000000 := Int.mul_nonneg hu (by omega)
      simp only [Int.mul_zero]; exact this
    · have h' := of_decide_eq_true h
      have e : (quartW u r).1 = (halveM (wayP u r) 40 0 32400000).1 := rfl
      rw [e]
      unfold wayL at h'
      have d := dn_le (a := u * (cosM (halveM (wayP u r) 40 0 32400000).1).1) (b := 1000000000) (by omega)
      have g := upd_ge (a := r * (sineM (2 * (halveM (wayP u r) 40 0 32400000).1)).2) (b := 1000000000) (by omega)
      omega
  have hi : u * (cosM (quartW u r).2).2 ≤ r * (sineM (2 * (quartW u r).2)).1 := by
    rcases b5 with h | h
    · have e : (quartW u r).2 = 32400000 := h
      rw [e, z3, z4]
      have : 0 ≤ r * 1000000000 := Int.mul_nonneg hr (by omega)
      simp only [Int.mul_zero]; exact this
    · have e : (quartW u r).2 = (halveM (wayN u r) 40 0 32400000).2 := rfl
      rw [e]
      have h' := wayN_false h
      unfold wayH at h'
      have d := upd_ge (a := u * (cosM (halveM (wayN u r) 40 0 32400000).2).2) (b := 1000000000) (by omega)
      have g := dn_le (a := r * (sineM (2 * (halveM (wayN u r) 40 0 32400000).2)).1) (b := 1000000000) (by omega)
      omega
  have e1 : (quartW u r).1 = (halveM (wayP u r) 40 0 32400000).1 := rfl
  have e2 : (quartW u r).2 = (halveM (wayN u r) 40 0 32400000).2 := rfl
  exact ⟨by omega, by omega, by omega, by omega, lo, hi⟩
/-- Where a way is not less than an angle, and not more than another one, that one is not less. -/
theorem way_order {u r a b : Int} (hu : 0 ≤ u) (hr : 0 ≤ r) (hn : 0 < u ∨ 0 < r) (ha : 0 ≤ a) (hb : b ≤ 32400000) (h1 : r * (sineM (2 * b)).2 ≤ u * (cosM b).1) (h2 : u * (cosM a).2 ≤ r * (sineM (2 * a)).1) : b ≤ a := by
  rcases Int.lt_or_le a b with g | g
  · exfalso
    have s := sine_grow (a := 2 * a) (b := 2 * b) (by omega) (by omega) (by omega)
    have c := cos_fall ha g hb
    generalize (sineM (2 * b)).2 = s2 at *
    generalize (sineM (2 * a)).1 = s1 at *
    generalize (cosM b).1 = c1 at *
    generalize (cosM a).2 = c2 at *
    have m1 : r * s1 ≤ r * s2 := Int.mul_le_mul_of_nonneg_left (by omega) hr
    have m2 : u * c1 ≤ u * c2 := Int.mul_le_mul_of_nonneg_left (by omega) hu
    rcases hn with hn | hn
    · have := Int.mul_lt_mul_of_pos_left c hn; omega
    · have := Int.mul_lt_mul_of_pos_left s hn; omega
  · exact g
theorem quartW_le {u r : Int} (hu : 0 ≤ u) (hr : 0 ≤ r) (hn : 0 < u ∨ 0 < r) : (quartW u r).1 ≤ (quartW u r).2 := by
  obtain ⟨a1, a2, a3, a4, a5, a6⟩ := quartW_tells hu hr
  exact way_order hu hr hn a3 a2 a5 a6
theorem quartW_swap {u r : Int} (hu : 0 ≤ u) (hr : 0 ≤ r) (hn : 0 < u ∨ 0 < r) : 32400000 - (quartW r u).2 ≤ (quartW u r).2 ∧ (quartW u r).1 ≤ 32400000 - (quartW r u).1 := by
  obtain ⟨a1, a2, a3, a4, a5, a6⟩ := quartW_tells hu hr
  obtain ⟨b1, b2, b3, b4, b5, b6⟩ := quartW_tells hr hu
  have s1 := cos_swap (quartW r u).1
  have s2 := cos_swap (quartW r u).2
  constructor
  · exact way_order hu hr hn a3 (by omega) (by rw [s2.1, s2.2]; exact b6) a6
  · exact way_order hu hr hn (by omega) a2 a5 (by rw [s1.1, s1.2]; exact b5)
theorem quartW_long {u r : Int} (hu : 0 ≤ u) (hr : 0 ≤ r) (hn : 0 < u ∨ 0 < r) : (quartW (2 * u) (2 * r)).1 ≤ (quartW u r).2 ∧ (quartW u r).1 ≤ (quartW (2 * u) (2 * r)).2 := by
  obtain ⟨a1, a2, a3, a4, a5, a6⟩ := quartW_tells hu hr
  obtain ⟨b1, b2, b3, b4, b5, b6⟩ := quartW_tells (u := 2 * u) (r := 2 * r) (by omega) (by omega)
  constructor
  · exact way_order hu hr hn a3 b2 (by rw [Int.mul_assoc, Int.mul_assoc] at b5; omega) a6
  · exact way_order hu hr hn b3 a2 a5 (by rw [Int.mul_assoc, Int.mul_assoc] at b6; omega)
theorem quartW_zero {n : Int} (h : 0 < n) : (quartW 0 n).1 = 0 := by
  obtain ⟨a1, a2, a3, a4, a5, a6⟩ := quartW_tells (u := 0) (r := n) (by omega) (by omega)
  have := way_order (u := 0) (r := n) (a := 0) (by omega) (by omega) (.inr h) (by omega) a2 a5 (by
    have z1 : sineM (2 * 0) = (0, 0) := by decide +kernel
    rw [z1]; simp)
  omega
theorem quartW_up {n : Int} (h : 0 < n) : (quartW n 0).2 = 32400000 := by
  obtain ⟨a1, a2, a3, a4, a5, a6⟩ := quartW_tells (u := n) (r := 0) (by omega) (by omega)
  have := way_order (u := n) (r := 0) (b := 32400000) (by omega) (by omega) (.inl h) a3 (by omega) (by
    have z4 : cosM 32400000 = (0, 0) := by decide +kernel
    rw [z4]; simp) a6
  omega
theorem quartW_even {n : Int} (h : 0 < n) : (quartW n n).1 ≤ 16200000 ∧ 16200000 ≤ (quartW n n).2 := by
  obtain ⟨a1, a2, a3, a4, a5, a6⟩ := quartW_tells (u := n) (r := n) (by omega) (by omega)
  have l : (sineM (2 * (quartW n n).1)).2 ≤ (cosM (quartW n n).1).1 := Int.le_of_mul_le_mul_left a5 h
  have m : (cosM (quartW n n).2).2 ≤ (sineM (2 * (quartW n n).2)).1 := Int.le_of_mul_le_mul_left a6 h
  rw [← (cos_swap _).2] at l m
  generalize (quartW n n).1 = x at *
  generalize (quartW n n).2 = y at *
  constructor
  · rcases Int.lt_or_le 16200000 x with g | g
    · have := sine_grow (a := 2 * (32400000 - x)) (b := 2 * x) (by omega) (by omega) (by omega)
      omega
    · exact g
  · rcases Int.lt_or_le y 16200000 with g | g
    · have := sine_grow (a := 2 * y) (b := 2 * (32400000 - y)) (by omega) (by omega) (by omega)
      omega
    · exact g
def absM (a : Int) : Int := if a < -a then -a else a
def wayM (a0 a1 : Int) : Int × Int :=
  if a1 < 0 then (if a0 < 0 then (-(64800000 - (quartW (absM a0) (absM a1)).1), -(64800000 - (quartW (absM a0) (absM a1)).2)) else (64800000 - (quartW (absM a0) (absM a1)).2, 64800000 - (quartW (absM a0) (absM a1)).1))
  else (if a0 < 0 then (-(quartW (absM a0) (absM a1)).2, -(quartW (absM a0) (absM a1)).1) else quartW (absM a0) (absM a1))
theorem absM_neg (a : Int) : absM (-a) = absM a := by unfold absM; split <;> split <;> omega
theorem absM_nonneg (a : Int) : 0 ≤ absM a ∧ (absM a = a ∨ absM a = -a) := by unfold absM; split <;> omega
theorem absM_two (a : Int) : absM (2 * a) = 2 * absM a := by unfold absM; split <;> split <;> omega
theorem wayM_plain {a0 a1 : Int} (h0 : 0 ≤ a0) (h1 : 0 ≤ a1) : wayM a0 a1 = quartW a0 a1 := by
  have e0 : absM a0 = a0 := by unfold absM; rw [if_neg (by omega)]
  have e1 : absM a1 = a1 := by unfold absM; rw [if_neg (by omega)]
  unfold wayM
  rw [if_neg (by omega), if_neg (by omega), e0, e1]
theorem wayM_bd {a0 a1 : Int} : -64800000 ≤ (wayM a0 a1).1 ∧ (wayM a0 a1).1 ≤ 64800000 ∧ -64800000 ≤ (wayM a0 a1).2 ∧ (wayM a0 a1).2 ≤ 64800000 := by
  obtain ⟨t1, t2, t3, t4, -, -⟩ := quartW_tells (absM_nonneg a0).1 (absM_nonneg a1).1
  unfold wayM
  split <;> split <;> (try dsimp only) <;> omega
theorem wayM_down {a0 a1 : Int} (h : 0 < a0) : wayM (-a0) a1 = (-(wayM a0 a1).2, -(wayM a0 a1).1) := by
  unfold wayM
  rw [absM_neg]
  split
  · rw [if_pos (by omega), if_neg (by omega)]
  · rw [if_pos (by omega), if_neg (by omega)]
theorem wayM_left {a0 a1 : Int} (h : 0 < a0) (h1 : ¬ a1 = 0) : wayM a0 (-a1) = (64800000 - (wayM a0 a1).2, 64800000 - (wayM a0 a1).1) := by
  unfold wayM
  rw [absM_neg]
  by_cases c : a1 < 0
  · rw [if_neg (show ¬ -a1 < 0 by omega), if_pos c, if_neg (show ¬ a0 < 0 by omega), if_neg (show ¬ a0 < 0 by omega)]
    apply Prod.ext <;> (try dsimp only) <;> omega
  · rw [if_pos (show -a1 < 0 by omega), if_neg c, if_neg (show ¬ a0 < 0 by omega), if_neg (show ¬ a0 < 0 by omega)]
theorem wayM_long {a0 a1 : Int} (h : ¬ (a0 = 0 ∧ a1 = 0)) : (wayM (2 * a0) (2 * a1)).1 ≤ (wayM a0 a1).2 ∧ (wayM a0 a1).1 ≤ (wayM (2 * a0) (2 * a1)).2 := by
  have n0 := absM_nonneg a0
  have n1 := absM_nonneg a1
  obtain ⟨l1, l2⟩ := quartW_long n0.1 n1.1 (by omega)
  have c0 : (2 * a0 < 0) = (a0 < 0) := by apply propext; omega
  have c1 : (2 * a1 < 0) = (a1 < 0) := by apply propext; omega
  unfold wayM
  simp only [absM_two, c0, c1]
  split <;> split <;> (try dsimp only) <;> omega
theorem abs_is {a : Int} (h1 : -1000000000 ≤ a) (h2 : a ≤ 1000000000) : mx a (wrap64 (-a)) = absM a ∧ (if a < wrap64 (-a) then wrap64 (-a) else a) = absM a ∧ 0 ≤ absM a ∧ absM a ≤ 1000000000 := by
  rw [w64 (x := -a) (by omega) (by omega)]
  unfold mx absM
  refine ⟨rfl, rfl, ?_, ?_⟩ <;> split <;> omega
theorem way_bd {u c : Int} (hu : 0 ≤ u) (hu1 : u ≤ 1000000000) (h1 : -1000000000 ≤ c) (h2 : c ≤ 1000000000) : -1000000000000000000 ≤ u * c ∧ u * c ≤ 1000000000000000000 := by
  have := mul_bd (a := u) (b := c) (A := 1000000000) (B := 1000000000) (by omega) hu1 h1 h2
  omega
section
variable {u r a : Int} (hu : 0 ≤ u) (hu1 : u ≤ 1000000000) (hr : 0 ≤ r) (hr1 : r ≤ 1000000000) (h1 : -1000000000 ≤ a) (h2 : a ≤ 1000000000) {k : Nat} (hk : 100 ≤ k)
include hu hu1 hr hr1 h1 h2 hk
theorem wayq1_is : impl_wayOf.q1 k u r a = some (wayP u r a) := by
  have s := sine_ends (2 * a)
  have c := sine_ends (2 * a + 64800000)
  have b1 := way_bd hu hu1 (c := (sineM (2 * a + 64800000)).1) (by omega) (by omega)
  have b2 := way_bd hr hr1 (c := (sineM (2 * a)).2) (by omega) (by omega)
  have d1 := div_bd (a := u * (sineM (2 * a + 64800000)).1) (b := 1000000000) (A := 1000000000000000000) (by omega) b1.1 b1.2
  have d2 := upd_bd (a := r * (sineM (2 * a)).2) (b := 1000000000) (A := 1000000000000000000) (by omega) b2.1 b2.2
  have e : 2 * (a + 32400000) = 2 * a + 64800000 := by omega
  unfold impl_wayOf.q1 wayP wayL cosM
  rw [cosine_is (by omega) (by omega) (by omega), e]
  simp only [Option.bind_some]
  rw [w64 (x := 2 * a) (by omega) (by omega), (sine_is (h := 2 * a) (by omega) (by omega) (k := k) (by omega)).1, w64 (x := u * _) (by omega) (by omega), down_is (by omega) (by omega) (by omega)]
  simp only [Option.bind_some]
  rw [w64 (x := r * _) (by omega) (by omega), up_is (by omega) (by omega) (by omega)]
  simp only [Option.bind_some]
  rw [w64 (by omega) (by omega)]
theorem wayq3_is : impl_wayOf.q3 k u r a = some (wayN u r a) := by
  have s := sine_ends (2 * a)
  have c := sine_ends (2 * a + 64800000)
  have b1 := way_bd hu hu1 (c := (sineM (2 * a + 64800000)).2) (by omega) (by omega)
  have b2 := way_bd hr hr1 (c := (sineM (2 * a)).1) (by omega) (by omega)
  have d1 := upd_bd (a := u * (sineM (2 * a + 64800000)).2) (b := 1000000000) (A := 1000000000000000000) (by omega) b1.1 b1.2
  have d2 := div_bd (a := r * (sineM (2 * a)).1) (b := 1000000000) (A := 1000000000000000000) (by omega) b2.1 b2.2
  have e : 2 * (a + 32400000) = 2 * a + 64800000 := by omega
  unfold impl_wayOf.q3 impl_wayOf.q2 wayN
  rw [wayq1_is hu hu1 hr hr1 h1 h2 hk]
  simp only [Option.bind_some]
  cases hp : wayP u r a with
  | true => rfl
  | false =>
    rw [if_neg (by decide), cosine_is (by omega) (by omega) (by omega), e]
    simp only [Option.bind_some]
    rw [w64 (x := 2 * a) (by omega) (by omega), (sine_is (h := 2 * a) (by omega) (by omega) (k := k) (by omega)).1, w64 (x := u * _) (by omega) (by omega), up_is (by omega) (by omega) (by omega)]
    simp only [Option.bind_some]
    rw [w64 (x := r * _) (by omega) (by omega), down_is (by omega) (by omega) (by omega)]
    simp only [Option.bind_some]
    rw [w64 (by omega) (by omega)]
    rfl
theorem side_is (b4 : Bool) : spec_l13Ask_less.f k false 0 u r b4 a = some (if b4 = true then wayN u r a else wayP u r a) := by
  have s := sine_ends (2 * a)
  have c := sine_ends (2 * a + 64800000)
  have b1 := way_bd hu hu1 (c := (sineM (2 * a + 64800000)).1) (by omega) (by omega)
  have b2 := way_bd hr hr1 (c := (sineM (2 * a)).2) (by omega) (by omega)
  have d1 := div_bd (a := u * (sineM (2 * a + 64800000)).1) (b := 1000000000) (A := 1000000000000000000) (by omega) b1.1 b1.2
  have d2 := upd_bd (a := r * (sineM (2 * a)).2) (b := 1000000000) (A := 1000000000000000000) (by omega) b2.1 b2.2
  have g1 := way_bd hu hu1 (c := (sineM (2 * a + 64800000)).2) (by omega) (by omega)
  have g2 := way_bd hr hr1 (c := (sineM (2 * a)).1) (by omega) (by omega)
  have f1 := upd_bd (a := u * (sineM (2 * a + 64800000)).2) (b := 1000000000) (A := 1000000000000000000) (by omega) g1.1 g1.2
  have f2 := div_bd (a := r * (sineM (2 * a)).1) (b := 1000000000) (A := 1000000000000000000) (by omega) g2.1 g2.2
  have sd : spec_l13Side.f k u r a = some (if 0 ≤ wayL u r a then 1 else if wayH u r a ≤ 0 then -1 else 0) := by
    unfold spec_l13Side.f wayL wayH cosM
    rw [w64 (x := 2 * a) (by omega) (by omega), (sine_is (h := 2 * a) (by omega) (by omega) (k := k) (by omega)).2, w64 (x := 2 * a + 64800000) (by omega) (by omega), (sine_is (h := 2 * a + 64800000) (by omega) (by omega) (k := k) (by omega)).2]
    simp only [Option.bind_some]
    rw [w64 (x := u * (sineM (2 * a + 64800000)).1) (by omega) (by omega), w64 (x := r * (sineM (2 * a)).2) (by omega) (by omega), w64 (x := u * (sineM (2 * a + 64800000)).2) (by omega) (by omega), w64 (x := r * (sineM (2 * a)).1) (by omega) (by omega),
      sdown_is (a := u * (sineM (2 * a + 64800000)).1) (by omega) (by omega) (by omega) (by omega), sup_is (a := r * (sineM (2 * a)).2) (by omega) (by omega) (by omega) (by omega), sup_is (a := u * (sineM (2 * a + 64800000)).2) (by omega) (by omega) (by omega) (by omega), sdown_is (a := r * (sineM (2 * a)).1) (by omega) (by omega) (by omega) (by omega)]
    simp only [Option.bind_some]
    rw [w64 (by omega) (by omega), w64 (by omega) (by omega)]
    split
    · rfl
    · split <;> rfl
  unfold spec_l13Ask_less.f
  rw [if_neg (by decide), sd]
  simp only [Option.bind_some]
  unfold wayN wayP
  by_cases q1 : 0 ≤ wayL u r a
  · simp [q1]
  · by_cases q2 : wayH u r a ≤ 0
    · cases b4 <;> simp [q1, q2]
    · cases b4 <;> simp [q1, q2]
end
theorem quartW_is {u r : Int} (hu : 0 ≤ u) (hu1 : u ≤ 1000000000) (hr : 0 ≤ r) (hr1 : r ≤ 1000000000) {k : Nat} (hk : 200 ≤ k) :
    impl_halve.l0 (impl_wayOf.q1 k u r) k 0 32400000 = some (halveM (wayP u r) 40 0 32400000) ∧ impl_halve.l0 (impl_wayOf.q3 k u r) k 0 32400000 = some (halveM (wayN u r) 40 0 32400000) ∧
    spec_l13Quart.f k u r = some (quartW u r) := by
  refine ⟨?_, ?_, ?_⟩
  · exact halve_is (impl_wayOf.q1 k u r) (wayP u r) 32400000 (by omega) (fun a h1 h2 => wayq1_is hu hu1 hr hr1 (by omega) (by omega) (by omega)) 30 k 40 0 32400000 (by omega) (by omega) (by omega) (by omega) (by omega) (by omega)
  · exact halve_is (impl_wayOf.q3 k u r) (wayN u r) 32400000 (by omega) (fun a h1 h2 => wayq3_is hu hu1 hr hr1 (by omega) (by omega) (by omega)) 30 k 40 0 32400000 (by omega) (by omega) (by omega) (by omega) (by omega) (by omega)
  · unfold spec_l13Quart.f spec_l13Ask_half.f
    rw [shalve_is false 0 u r false (wayP u r) 32400000 (by omega) 100 (fun k a hk h1 h2 => by rw [side_is hu hu1 hr hr1 (by omega) (by omega) hk]; rfl) 30 k 40 _ _ (by omega) (by omega) (by omega) (by omega) (by omega) (by omega),
      shalve_is false 0 u r true (wayN u r) 32400000 (by omega) 100 (fun k a hk h1 h2 => by rw [side_is hu hu1 hr hr1 (by omega) (by omega) hk]; rfl) 30 k 40 _ _ (by omega) (by omega) (by omega) (by omega) (by omega) (by omega)]
    rfl
def wayOk (a0 a1 : Int) : Prop := -1000000000 ≤ a0 ∧ a0 ≤ 1000000000 ∧ -1000000000 ≤ a1 ∧ a1 ≤ 1000000000 ∧ ¬ (a0 = 0 ∧ a1 = 0)
instance (a0 a1 : Int) : Decidable (wayOk a0 a1) := by unfold wayOk; exact inferInstance
/-- Both tell the same of a way. -/
theorem WayOf_is {a0 a1 : Int} {k : Nat} (hk : 200 ≤ k) :
    impl_WayOf.f k a0 a1 = (if wayOk a0 a1 then some ((wayM a0 a1).1, (wayM a0 a1).2, true) else some (0, 0, false)) ∧
    spec_WayOf.f k a0 a1 = (if wayOk a0 a1 then some ((wayM a0 a1).1, (wayM a0 a1).2, true) else some (0, 0, false)) := by
  by_cases h : wayOk a0 a1
  · rw [if_pos h]
    obtain ⟨h1, h2, h3, h4, h5⟩ := h
    obtain ⟨u1, u2, u3, u4⟩ := abs_is h1 h2
    obtain ⟨r1, r2, r3, r4⟩ := abs_is h3 h4
    obtain ⟨p1, p2, p3⟩ := quartW_is u3 u4 r3 r4 hk
    obtain ⟨t1, t2, t3, t4, -, -⟩ := quartW_tells u3 r3
    have w : impl_wayOf.f k a0 a1 = some (wayM a0 a1) := by
      unfold impl_wayOf.f wayM
      rw [u1, r1, p1, p2]
      simp only [Option.bind_some]
      have e1 : (halveM (wayP (absM a0) (absM a1)) 40 0 32400000).1 = (quartW (absM a0) (absM a1)).1 := rfl
      have e2 : (halveM (wayN (absM a0) (absM a1)) 40 0 32400000).2 = (quartW (absM a0) (absM a1)).2 := rfl
      rw [e1, e2]
      generalize quartW (absM a0) (absM a1) = q at *
      rw [w64 (x := 64800000 - q.1) (by omega) (by omega), w64 (x := 64800000 - q.2) (by omega) (by omega), w64 (x := -(64800000 - q.1)) (by omega) (by omega), w64 (x := -(64800000 - q.2)) (by omega) (by omega), w64 (x := -q.2) (by omega) (by omega), w64 (x := -q.1) (by omega) (by omega)]
      split <;> split <;> rfl
    constructor
    · unfold impl_WayOf.f impl_isPart.f
      simp only [in_is, Option.bind_some, w]
      simp only [h1, h2, h3, h4, and_self, decide_true, if_true]
      by_cases z0 : a0 = 0
      · rw [if_pos z0, if_neg (by omega)]
      · rw [if_neg z0]
    · unfold spec_WayOf.f
      rw [if_pos ⟨h1, h2, h3, h4, h5⟩, u2, r2, p3]
      simp only [Option.bind_some]
      unfold spec_WayOf.g wayM
      generalize quartW (absM a0) (absM a1) = q at *
      rw [w64 (x := 64800000 - q.1) (by omega) (by omega), w64 (x := 64800000 - q.2) (by omega) (by omega), w64 (x := -(64800000 - q.1)) (by omega) (by omega), w64 (x := -(64800000 - q.2)) (by omega) (by omega), w64 (x := -q.2) (by omega) (by omega), w64 (x := -q.1) (by omega) (by omega)]
  · rw [if_neg h]
    constructor
    · unfold impl_WayOf.f impl_isPart.f
      simp only [in_is, Option.bind_some]
      by_cases c0 : -1000000000 ≤ a0 ∧ a0 ≤ 1000000000
      · by_cases c1 : -1000000000 ≤ a1 ∧ a1 ≤ 1000000000
        · have z0 : a0 = 0 := by unfold wayOk at h; omega
          have z1 : a1 = 0 := by unfold wayOk at h; omega
          subst z0; subst z1; rfl
        · simp [c0, c1]
      · simp [c0]
    · unfold wayOk at h
      unfold spec_WayOf.f
      rw [if_neg h]

end Go.Proofs.Ytcdgplkmahabiaa.M

import Derived.Test.YtcdgplkmahabiaaP3
import Derived.Test.YtcdgplkmahabiaaMd
import Derived.Test.YtcdgplkmahabiaaMf
import Derived.Test.YtcdgplkmahabiaaMg
import Derived.Test.YtcdgplkmahabiaaNf
namespace Go.Proofs.Ytcdgplkmahabiaa.M
open Go.RowKit Go.Proofs.YtcdgplkmahabiaaW.PrintWords Go.Proofs.YtcdgplkmahabiaaW.PrintLast Go.Proofs.YtcdgplkmahabiaaW.PrintMore
attribute [local go_sem] max2_int min2_int max_two min_two max_three min_three max_four min_four
attribute [local go_sem high] eqA23 eqA30
attribute [local go_sem] fld23_0 fld23_1 fld30_0 fld30_1 fld55_0 fld55_1 fld55_2 fld55_3 fld55_4
set_option linter.unusedVariables false
set_option linter.unusedSimpArgs false
/-! ### cosines (the same lines stand in Way.lean) -/
def cosM (a : Int) : Int × Int := sineM (2 * a + 64800000)
theorem cos_swap (a : Int) : cosM (32400000 - a) = sineM (2 * a) ∧ sineM (2 * (32400000 - a)) = cosM a := by
  unfold cosM
  have r1 := sine_refl (2 * a)
  have r2 := sine_refl (2 * a + 64800000)
  have e1 : 129600000 - 2 * a = 2 * (32400000 - a) + 64800000 := by omega
  have e2 : 129600000 - (2 * a + 64800000) = 2 * (32400000 - a) := by omega
  rw [e1] at r1
  rw [e2] at r2
  exact ⟨r1, r2⟩
theorem cos_fall {a b : Int} (h0 : 0 ≤ a) (h : a < b) (h1 : b ≤ 32400000) : (cosM b).1 < (cosM a).2 := by
  rw [← (cos_swap b).2, ← (cos_swap a).2]
  exact sine_grow (by omega) (by omega) (by omega)
/-! the same lines stand in HalveLink.lean -/
theorem cosine_is {a : Int} {k : Nat} (hk : 100 ≤ k) (h1 : -10000000000000 ≤ a) (h2 : a ≤ 10000000000000) : impl_cosine.f k a = some (sineM (2 * (a + 32400000))) := by
  unfold impl_cosine.f
  rw [w64 (x := a + 32400000) (by omega) (by omega), w64 (x := 2 * (a + 32400000)) (by omega) (by omega), (sine_is (h := 2 * (a + 32400000)) (by omega) (by omega) (by omega)).1]
  rfl
/-! ### products of spans -/
def min4 (p q r s : Int) : Int := min (min p q) (min r s)
def max4 (p q r s : Int) : Int := max (max p q) (max r s)
def mulM (s t : Int × Int) : Int × Int := (min4 (s.1 * t.1) (s.1 * t.2) (s.2 * t.1) (s.2 * t.2) / 1000000000, upd (max4 (s.1 * t.1) (s.1 * t.2) (s.2 * t.1) (s.2 * t.2)) 1000000000)
def OkM (s : Int × Int) : Prop := -1073000000 ≤ s.1 ∧ s.1 ≤ s.2 ∧ s.2 ≤ 1073000000
theorem upd_mono {a b c : Int} (hc : 0 < c) (h : a ≤ b) : upd a c ≤ upd b c := by
  have := upd_ge (a := b) hc
  exact upd_le hc (by omega)
theorem dn_mono {a b c : Int} (hc : 0 < c) (h : a ≤ b) : a / c ≤ b / c := Int.ediv_le_ediv hc h
theorem dn_up {a b : Int} (hb : 0 < b) : a / b ≤ upd a b := by
  have h1 := dn_le (a := a) hb
  have h2 := upd_ge (a := a) hb
  have : a / b * b ≤ upd a b * b := by omega
  exact Int.le_of_mul_le_mul_right this hb
theorem mulM_ok (s t : Int × Int) : (mulM s t).1 ≤ (mulM s t).2 := by
  have h1 : (mulM s t).1 ≤ s.1 * t.1 / 1000000000 := dn_mono (by omega) (by unfold min4; omega)
  have h2 : upd (s.1 * t.1) 1000000000 ≤ (mulM s t).2 := upd_mono (by omega) (by unfold max4; omega)
  have h3 := dn_up (a := s.1 * t.1) (b := 1000000000) (by omega)
  omega
theorem mulM_bd {s t : Int × Int} {A B C : Int} (h1 : -A ≤ s.1) (h2 : s.1 ≤ A) (h3 : -A ≤ s.2) (h4 : s.2 ≤ A) (h5 : -B ≤ t.1) (h6 : t.1 ≤ B) (h7 : -B ≤ t.2) (h8 : t.2 ≤ B) (hC : A * B ≤ C * 1000000000) :
    -C ≤ (mulM s t).1 ∧ (mulM s t).1 ≤ C ∧ -C ≤ (mulM s t).2 ∧ (mulM s t).2 ≤ C := by
  have b1 := mul_bd h1 h2 h5 h6
  have b2 := mul_bd h1 h2 h7 h8
  have b3 := mul_bd h3 h4 h5 h6
  have b4 := mul_bd h3 h4 h7 h8
  have o := mulM_ok s t
  have lo : -C ≤ (mulM s t).1 := by
    show -C ≤ _ / _
    rw [Int.le_ediv_iff_mul_le (by omega)]
    unfold min4
    omega
  have hi : (mulM s t).2 ≤ C := upd_le (by omega) (by unfold max4; omega)
  omega
theorem mulM_comm (s t : Int × Int) : mulM s t = mulM t s := by
  unfold mulM
  rw [Int.mul_comm t.1 s.1, Int.mul_comm t.1 s.2, Int.mul_comm t.2 s.1, Int.mul_comm t.2 s.2]
  unfold min4 max4
  congr 2 <;> omega
theorem upd_neg (a b : Int) : upd (-a) b = -(a / b) := by unfold upd; rw [Int.neg_neg]
theorem dn_neg (a b : Int) : (-a) / b = -upd a b := by unfold upd; omega
theorem mulM_neg (s t : Int × Int) : mulM (negM s) t = negM (mulM s t) := by
  unfold mulM negM
  simp only [Int.neg_mul]
  have e1 : min4 (-(s.2 * t.1)) (-(s.2 * t.2)) (-(s.1 * t.1)) (-(s.1 * t.2)) = -max4 (s.1 * t.1) (s.1 * t.2) (s.2 * t.1) (s.2 * t.2) := by unfold min4 max4; omega
  have e2 : max4 (-(s.2 * t.1)) (-(s.2 * t.2)) (-(s.1 * t.1)) (-(s.1 * t.2)) = -min4 (s.1 * t.1) (s.1 * t.2) (s.2 * t.1) (s.2 * t.2) := by unfold min4 max4; omega
  rw [e1, e2, dn_neg, upd_neg]
/-! ### turned ways -/
def addM (s t : Int × Int) : Int × Int := (s.1 + t.1, s.2 + t.2)
def subM (s t : Int × Int) : Int × Int := (s.1 - t.2, s.2 - t.1)
def turnUp (u r a : Int) : Int × Int := addM (mulM (u, u) (cosM a)) (mulM (r, r) (sineM (2 * a)))
def turnRight (u r a : Int) : Int × Int := subM (mulM (r, r) (cosM a)) (mulM (u, u) (sineM (2 * a)))
theorem scaled_bd {n : Int} (h1 : -500000000 ≤ n) (h2 : n ≤ 500000000) (h : Int) : -500000000 ≤ (mulM (n, n) (sineM h)).1 ∧ (mulM (n, n) (sineM h)).1 ≤ 500000000 ∧ -500000000 ≤ (mulM (n, n) (sineM h)).2 ∧ (mulM (n, n) (sineM h)).2 ≤ 500000000 := by
  have s := sine_ends h
  exact mulM_bd (A := 500000000) (B := 1000000000) h1 h2 h1 h2 (by omega) (by omega) (by omega) (by omega) (by omega)
theorem turn_ok {u r : Int} (h1 : -500000000 ≤ u) (h2 : u ≤ 500000000) (h3 : -500000000 ≤ r) (h4 : r ≤ 500000000) (a : Int) :
    (-1000000000 ≤ (turnUp u r a).1 ∧ (turnUp u r a).1 ≤ (turnUp u r a).2 ∧ (turnUp u r a).2 ≤ 1000000000) ∧ (-1000000000 ≤ (turnRight u r a).1 ∧ (turnRight u r a).1 ≤ (turnRight u r a).2 ∧ (turnRight u r a).2 ≤ 1000000000) := by
  have b1 := scaled_bd h1 h2 (2 * a + 64800000)
  have b2 := scaled_bd h3 h4 (2 * a)
  have b3 := scaled_bd h3 h4 (2 * a + 64800000)
  have b4 := scaled_bd h1 h2 (2 * a)
  have o1 := mulM_ok (u, u) (sineM (2 * a + 64800000))
  have o2 := mulM_ok (r, r) (sineM (2 * a))
  have o3 := mulM_ok (r, r) (sineM (2 * a + 64800000))
  have o4 := mulM_ok (u, u) (sineM (2 * a))
  unfold turnUp turnRight addM subM cosM
  dsimp only
  omega
theorem turn_neg (u r a : Int) : turnUp (-u) (-r) a = negM (turnUp u r a) ∧ turnRight (-u) (-r) a = negM (turnRight u r a) := by
  have e (n : Int) (t : Int × Int) : mulM (-n, -n) t = negM (mulM (n, n) t) := mulM_neg (n, n) t
  unfold turnUp turnRight
  rw [e, e, e, e]
  unfold addM subM negM
  constructor <;> apply Prod.ext <;> dsimp only <;> omega
theorem turn_more (u r a : Int) : turnUp u r (a + 129600000) = turnUp u r a ∧ turnRight u r (a + 129600000) = turnRight u r a := by
  have e1 : 2 * (a + 129600000) = 2 * a + 259200000 := by omega
  have e2 : 2 * (a + 129600000) + 64800000 = 2 * a + 64800000 + 259200000 := by omega
  unfold turnUp turnRight cosM
  rw [e2, e1, sine_back, sine_back]
  exact ⟨rfl, rfl⟩
theorem mul_unit (n : Int) : mulM (n, n) (1000000000, 1000000000) = (n, n) ∧ mulM (n, n) (0, 0) = (0, 0) := by
  constructor
  · unfold mulM min4 max4 upd
    apply Prod.ext <;> dsimp only <;> omega
  · unfold mulM min4 max4 upd
    apply Prod.ext <;> dsimp only <;> simp
theorem turn_whole (u r : Int) : turnUp u r 0 = (u, u) ∧ turnRight u r 0 = (r, r) ∧ turnUp u r 32400000 = (r, r) ∧ turnRight u r 32400000 = (-u, -u) := by
  have z1 : sineM (2 * 0) = (0, 0) := by decide +kernel
  have z2 : cosM 0 = (1000000000, 1000000000) := by decide +kernel
  have z3 : sineM (2 * 32400000) = (1000000000, 1000000000) := by decide +kernel
  have z4 : cosM 32400000 = (0, 0) := by decide +kernel
  unfold turnUp turnRight
  rw [z1, z2, z3, z4, (mul_unit u).1, (mul_unit u).2, (mul_unit r).1, (mul_unit r).2]
  unfold addM subM
  simp
theorem SpanOk_is (x y : Int) : impl_SpanOk.f x y = some (decide (-1073000000 ≤ x ∧ x ≤ y ∧ y ≤ 1073000000)) ∧ spec_SpanOk.f x y = some (decide (-1073000000 ≤ x ∧ x ≤ y ∧ y ≤ 1073000000)) := by
  unfold impl_SpanOk.f spec_SpanOk.f
  simp only [in_is, sin_is, Option.bind_some]
  by_cases c1 : -1073000000 ≤ x <;> by_cases c2 : x ≤ y <;> by_cases c3 : y ≤ 1073000000
  all_goals first
    | (have c4 : x ≤ 1073000000 := by omega
       have c5 : -1073000000 ≤ y := by omega
       simp [c1, c2, c3, c4, c5])
    | (by_cases c4 : x ≤ 1073000000 <;> by_cases c5 : -1073000000 ≤ y <;> simp [c1, c2, c3, c4, c5])
theorem told_is {x y : Int} (h1 : -1073000000 ≤ x) (h2 : x ≤ y) (h3 : y ≤ 1073000000) : impl_told.f x y = some (x, y, true) := by
  unfold impl_told.f
  rw [(SpanOk_is x y).1]
  simp [h1, h2, h3]
theorem fit_is {x y : Int} (h1 : -1073000000 ≤ x) (h2 : x ≤ y) (h3 : y ≤ 1073000000) : spec_l2Fit.f x y = some (x, y, true) := by
  unfold spec_l2Fit.f
  rw [(SpanOk_is x y).2]
  simp [h1, h2, h3]
/-- A product that fits. -/
theorem mul_is {s t : Int × Int} (hs : OkM s) (ht : OkM t) (h1 : -1073000000 ≤ (mulM s t).1) (h2 : (mulM s t).2 ≤ 1073000000) {k : Nat} (hk : 1 ≤ k) :
    impl_SpanMul.f k s.1 s.2 t.1 t.2 = some ((mulM s t).1, (mulM s t).2, true) ∧ spec_SpanMul.f k s.1 s.2 t.1 t.2 = some ((mulM s t).1, (mulM s t).2, true) := by
  obtain ⟨k, rfl⟩ : ∃ q, k = q + 1 := ⟨k - 1, by omega⟩
  obtain ⟨s1, s2, s3⟩ := hs
  obtain ⟨t1, t2, t3⟩ := ht
  have o := mulM_ok s t
  have b1 := mul_bd (a := s.1) (b := t.1) (A := 1073000000) (B := 1073000000) (by omega) (by omega) (by omega) (by omega)
  have b2 := mul_bd (a := s.1) (b := t.2) (A := 1073000000) (B := 1073000000) (by omega) (by omega) (by omega) (by omega)
  have b3 := mul_bd (a := s.2) (b := t.1) (A := 1073000000) (B := 1073000000) (by omega) (by omega) (by omega) (by omega)
  have b4 := mul_bd (a := s.2) (b := t.2) (A := 1073000000) (B := 1073000000) (by omega) (by omega) (by omega) (by omega)
  unfold impl_SpanMul.f spec_SpanMul.f
  rw [(SpanOk_is s.1 s.2).1, (SpanOk_is s.1 s.2).2, (SpanOk_is t.1 t.2).1, (SpanOk_is t.1 t.2).2]
  have d1 : decide (-1073000000 ≤ s.1 ∧ s.1 ≤ s.2 ∧ s.2 ≤ 1073000000) = true := decide_eq_true ⟨s1, s2, s3⟩
  have d2 : decide (-1073000000 ≤ t.1 ∧ t.1 ≤ t.2 ∧ t.2 ≤ 1073000000) = true := decide_eq_true ⟨t1, t2, t3⟩
  rw [d1, d2]
  simp only [Option.bind_some, if_true, Bool.not_true]
  rw [impl_SpanMul.j0, spec_SpanMul.j0, if_neg (by decide), if_neg (by decide)]
  rw [w64 (x := s.1 * t.1) (by omega) (by omega), w64 (x := s.1 * t.2) (by omega) (by omega), w64 (x := s.2 * t.1) (by omega) (by omega), w64 (x := s.2 * t.2) (by omega) (by omega)]
  unfold spec_l2Four.f
  simp only [mn_is, mx_is, Option.bind_some]
  have e1 : min (min (min (s.1 * t.1) (s.1 * t.2)) (s.2 * t.1)) (s.2 * t.2) = min4 (s.1 * t.1) (s.1 * t.2) (s.2 * t.1) (s.2 * t.2) := by unfold min4; omega
  have e2 : max (max (max (s.1 * t.1) (s.1 * t.2)) (s.2 * t.1)) (s.2 * t.2) = max4 (s.1 * t.1) (s.1 * t.2) (s.2 * t.1) (s.2 * t.2) := by unfold max4; omega
  have e3 : min (min (s.1 * t.1) (s.1 * t.2)) (min (s.2 * t.1) (s.2 * t.2)) = min4 (s.1 * t.1) (s.1 * t.2) (s.2 * t.1) (s.2 * t.2) := rfl
  have e4 : max (max (s.1 * t.1) (s.1 * t.2)) (max (s.2 * t.1) (s.2 * t.2)) = max4 (s.1 * t.1) (s.1 * t.2) (s.2 * t.1) (s.2 * t.2) := rfl
  have n1 : -1200000000000000000 ≤ min4 (s.1 * t.1) (s.1 * t.2) (s.2 * t.1) (s.2 * t.2) := by unfold min4; omega
  have n2 : min4 (s.1 * t.1) (s.1 * t.2) (s.2 * t.1) (s.2 * t.2) ≤ 1200000000000000000 := by unfold min4; omega
  have n3 : -1200000000000000000 ≤ max4 (s.1 * t.1) (s.1 * t.2) (s.2 * t.1) (s.2 * t.2) := by unfold max4; omega
  have n4 : max4 (s.1 * t.1) (s.1 * t.2) (s.2 * t.1) (s.2 * t.2) ≤ 1200000000000000000 := by unfold max4; omega
  rw [e1, e2, e3, e4, down_is (by omega) (by omega) (by omega), up_is (by omega) (by omega) (by omega), sdown_is (by omega) (by omega) (by omega) (by omega), sup_is (by omega) (by omega) (by omega) (by omega)]
  simp only [Option.bind_some]
  have g1 : min4 (s.1 * t.1) (s.1 * t.2) (s.2 * t.1) (s.2 * t.2) / 1000000000 = (mulM s t).1 := rfl
  have g2 : upd (max4 (s.1 * t.1) (s.1 * t.2) (s.2 * t.1) (s.2 * t.2)) 1000000000 = (mulM s t).2 := rfl
  rw [g1, g2, told_is (by omega) o (by omega), fit_is (by omega) o (by omega)]
  exact ⟨rfl, rfl⟩
theorem add_is {s t : Int × Int} (hs : OkM s) (ht : OkM t) (h1 : -1073000000 ≤ s.1 + t.1) (h2 : s.2 + t.2 ≤ 1073000000) : impl_SpanAdd.f s.1 s.2 t.1 t.2 = some (s.1 + t.1, s.2 + t.2, true) := by
  obtain ⟨s1, s2, s3⟩ := hs
  obtain ⟨t1, t2, t3⟩ := ht
  unfold impl_SpanAdd.f
  rw [(SpanOk_is s.1 s.2).1, (SpanOk_is t.1 t.2).1]
  simp only [s1, s2, s3, t1, t2, t3, and_self, decide_true, Option.bind_some, if_true]
  rw [w64 (x := s.1 + t.1) (by omega) (by omega), w64 (x := s.2 + t.2) (by omega) (by omega), told_is (by omega) (by omega) (by omega)]
  rfl
theorem sub_is {s t : Int × Int} (hs : OkM s) (ht : OkM t) (h1 : -1073000000 ≤ s.1 - t.2) (h2 : s.2 - t.1 ≤ 1073000000) : impl_SpanSub.f s.1 s.2 t.1 t.2 = some (s.1 - t.2, s.2 - t.1, true) := by
  obtain ⟨t1, t2, t3⟩ := ht
  have a := add_is (s := s) (t := (-t.2, -t.1)) hs ⟨by dsimp only; omega, by dsimp only; omega, by dsimp only; omega⟩ (by dsimp only; omega) (by dsimp only; omega)
  unfold impl_SpanSub.f
  rw [(SpanOk_is t.1 t.2).1]
  simp only [t1, t2, t3, and_self, decide_true, Option.bind_some, if_true]
  rw [(neg_is t1 t2 t3).1]
  simp only [Option.bind_some]
  dsimp only at a
  rw [a]
  simp only [Option.bind_some, ← Int.sub_eq_add_neg]
def turnOk (u r a : Int) : Prop := -500000000 ≤ u ∧ u ≤ 500000000 ∧ -500000000 ≤ r ∧ r ≤ 500000000 ∧ -1000000000000 ≤ a ∧ a ≤ 1000000000000
instance (u r a : Int) : Decidable (turnOk u r a) := by unfold turnOk; exact inferInstance
theorem TurnBy_is {u r a : Int} {k : Nat} (hk : 200 ≤ k) :
    impl_TurnBy.f k u r a = (if turnOk u r a then some ((turnUp u r a).1, (turnUp u r a).2, (turnRight u r a).1, (turnRight u r a).2, true) else some (0, 0, 0, 0, false)) ∧
    spec_TurnBy.f k u r a = (if turnOk u r a then some ((turnUp u r a).1, (turnUp u r a).2, (turnRight u r a).1, (turnRight u r a).2, true) else some (0, 0, 0, 0, false)) := by
  obtain ⟨k, rfl⟩ : ∃ q, k = q + 1 := ⟨k - 1, by omega⟩
  by_cases h : turnOk u r a
  · rw [if_pos h]
    obtain ⟨u1, u2, r1, r2, a1, a2⟩ := h
    have e : 2 * (a + 32400000) = 2 * a + 64800000 := by omega
    have s := sine_ends (2 * a)
    have c := sine_ends (2 * a + 64800000)
    have sc {n : Int} (h1 : -500000000 ≤ n) (h2 : n ≤ 500000000) (h : Int) := mul_is (s := (n, n)) (t := sineM h) ⟨by dsimp only; omega, by dsimp only; omega, by dsimp only; omega⟩ (by have := sine_ends h; exact ⟨by omega, by omega, by omega⟩) (by have := scaled_bd h1 h2 h; omega) (by have := scaled_bd h1 h2 h; omega) (k := k) (by omega)
    have m1 := sc u1 u2 (2 * a + 64800000)
    have m2 := sc r1 r2 (2 * a)
    have m3 := sc r1 r2 (2 * a + 64800000)
    have m4 := sc u1 u2 (2 * a)
    have b1 := scaled_bd u1 u2 (2 * a + 64800000)
    have b2 := scaled_bd r1 r2 (2 * a)
    have b3 := scaled_bd r1 r2 (2 * a + 64800000)
    have b4 := scaled_bd u1 u2 (2 * a)
    have o1 := mulM_ok (u, u) (sineM (2 * a + 64800000))
    have o2 := mulM_ok (r, r) (sineM (2 * a))
    have o3 := mulM_ok (r, r) (sineM (2 * a + 64800000))
    have o4 := mulM_ok (u, u) (sineM (2 * a))
    dsimp only at m1 m2 m3 m4
    constructor
    · unfold impl_TurnBy.f impl_isHalf.f impl_isAngle.f
      simp only [in_is, Option.bind_some, u1, u2, r1, r2, a1, a2, and_self, decide_true, if_true, Bool.not_true]
      rw [impl_TurnBy.j0, if_neg (by decide), w64 (x := 2 * a) (by omega) (by omega), (sine_is (h := 2 * a) (by omega) (by omega) (k := k) (by omega)).1, cosine_is (by omega) (by omega) (by omega), e]
      simp only [Option.bind_some]
      unfold impl_scaled.f
      rw [m1.1, m2.1, m3.1, m4.1]
      simp only [Option.bind_some]
      rw [add_is (s := mulM (u, u) (sineM (2 * a + 64800000))) (t := mulM (r, r) (sineM (2 * a))) ⟨by omega, by omega, by omega⟩ ⟨by omega, by omega, by omega⟩ (by omega) (by omega),
        sub_is (s := mulM (r, r) (sineM (2 * a + 64800000))) (t := mulM (u, u) (sineM (2 * a))) ⟨by omega, by omega, by omega⟩ ⟨by omega, by omega, by omega⟩ (by omega) (by omega)]
      rfl
    · unfold spec_TurnBy.f spec_l22Way.f spec_l11Ok.f
      simp only [sin_is, Option.bind_some, u1, u2, r1, r2, a1, a2, and_self, decide_true, if_true, Bool.not_true]
      rw [spec_TurnBy.j0, if_neg (by decide), w64 (x := 2 * a) (by omega) (by omega), w64 (x := 2 * a + 64800000) (by omega) (by omega), (sine_is (h := 2 * a) (by omega) (by omega) (k := k) (by omega)).2, (sine_is (h := 2 * a + 64800000) (by omega) (by omega) (k := k) (by omega)).2]
      simp only [Option.bind_some]
      rw [m1.2, m2.2, m3.2, m4.2]
      simp only [Option.bind_some]
      rw [w64 (by omega) (by omega), w64 (by omega) (by omega), w64 (by omega) (by omega), w64 (by omega) (by omega)]
      rfl
  · rw [if_neg h]
    unfold turnOk at h
    constructor
    · unfold impl_TurnBy.f impl_isHalf.f impl_isAngle.f
      simp only [in_is, Option.bind_some]
      by_cases c0 : -500000000 ≤ u ∧ u ≤ 500000000
      · by_cases c1 : -500000000 ≤ r ∧ r ≤ 500000000
        · have c2 : ¬ (-1000000000000 ≤ a ∧ a ≤ 1000000000000) := by omega
          simp [c0, c1, c2, impl_TurnBy.j0]
        · simp [c0, c1, impl_TurnBy.j0]
      · simp [c0, impl_TurnBy.j0]
    · unfold spec_TurnBy.f spec_l22Way.f spec_l11Ok.f
      simp only [sin_is, Option.bind_some]
      by_cases c0 : -500000000 ≤ u ∧ u ≤ 500000000
      · by_cases c1 : -500000000 ≤ r ∧ r ≤ 500000000
        · have c2 : ¬ (-1000000000000 ≤ a ∧ a ≤ 1000000000000) := by omega
          simp [c0, c1, c2, spec_TurnBy.j0]
        · simp [c0, c1, spec_TurnBy.j0]
      · simp [c0, spec_TurnBy.j0]

end Go.Proofs.Ytcdgplkmahabiaa.M

import Derived.Test.YtlodpfddimeffaaP3
import Derived.Test.YtlodpfddimeffaaMf
import Derived.Test.YtlodpfddimeffaaMg
import Derived.Test.YtlodpfddimeffaaNc
import Derived.Test.YtlodpfddimeffaaNd
import Derived.Test.YtlodpfddimeffaaNe
namespace Go.Proofs.Ytlodpfddimeffaa.M
open Go.RowKit Go.Proofs.YtlodpfddimeffaaW.PrintWords Go.Proofs.YtlodpfddimeffaaW.PrintLast Go.Proofs.YtlodpfddimeffaaW.PrintMore
attribute [local go_sem] max2_int min2_int max_two min_two max_three min_three max_four min_four
attribute [local go_sem high] eqA31
attribute [local go_sem] fld31_0 fld31_1 fld25_0 fld25_1 fld25_2 fld25_3
set_option linter.unusedVariables false
set_option linter.unusedSimpArgs false
/-- Halving by a question, in whole numbers. -/
def halveM (p : Int → Bool) : Nat → Int → Int → Int × Int
 | 0, lo, hi => (lo, hi)
 | k + 1, lo, hi => if hi - lo > 1 then (if p ((lo + hi) / 2) = true then halveM p k ((lo + hi) / 2) hi else halveM p k lo ((lo + hi) / 2)) else (lo, hi)
theorem halveM_tells (p : Int → Bool) (d : Nat) : ∀ (k : Nat) (lo hi : Int), lo < hi → hi - lo ≤ 2 ^ d → d < k →
  lo ≤ (halveM p k lo hi).1 ∧ (halveM p k lo hi).2 = (halveM p k lo hi).1 + 1 ∧ (halveM p k lo hi).2 ≤ hi ∧
  ((halveM p k lo hi).1 = lo ∨ p (halveM p k lo hi).1 = true) ∧ ((halveM p k lo hi).2 = hi ∨ p (halveM p k lo hi).2 = false) := by
 induction d with
 | zero =>
  intro k lo hi h1 h2 h3
  obtain ⟨k, rfl⟩ : ∃ q, k = q + 1 := ⟨k - 1, by omega⟩
  rw [halveM, if_neg (by omega)]
  exact ⟨by omega, by simp; omega, by omega, .inl rfl, .inl rfl⟩
 | succ d ih =>
  intro k lo hi h1 h2 h3
  obtain ⟨k, rfl⟩ : ∃ q, k = q + 1 := ⟨k - 1, by omega⟩
  have hp : (2 : Int) ^ (d + 1) = 2 * 2 ^ d := by rw [Int.pow_succ]; omega
  rw [halveM]
  by_cases c : hi - lo > 1
  ·rw [if_pos c]
   generalize hm : (lo + hi) / 2 = m
   cases hpm : p m with
   | true =>
    rw [if_pos rfl]
    obtain ⟨b1, b2, b3, b4, b5⟩ := ih k m hi (by omega) (by omega) (by omega)
    refine ⟨by omega, b2, b3, ?_, b5⟩
    rcases b4 with h | h
    ·right; rw [h, hpm]
    ·exact .inr h
   | false =>
    rw [if_neg (by decide)]
    obtain ⟨b1, b2, b3, b4, b5⟩ := ih k lo m (by omega) (by omega) (by omega)
    refine ⟨b1, b2, by omega, b4, ?_⟩
    rcases b5 with h | h
    ·right; rw [h, hpm]
    ·exact .inr h
  ·rw [if_neg c]
   exact ⟨by omega, by simp; omega, by omega, .inl rfl, .inl rfl⟩
/-! ### roots by halving -/
def rootM (a : Int) : Int := (halveM (fun m => decide (m * m ≤ a)) 40 0 1073741825).1
def ceilM (a : Int) : Int := if rootM a * rootM a < a then rootM a + 1 else rootM a
theorem rootM_is {a : Int} (h0 : 0 ≤ a) (h1 : a ≤ 1152921504606846976) : IsRoot a (rootM a) := by
 obtain ⟨a1, a2, a3, a4, a5⟩ := halveM_tells (fun m => decide (m * m ≤ a)) 31 40 0 1073741825 (by omega) (by omega) (by omega)
 unfold rootM
 generalize halveM (fun m => decide (m * m ≤ a)) 40 0 1073741825 = x at *
 refine ⟨a1, ?_, ?_⟩
 ·rcases a4 with h | h
  ·rw [h]; simpa using h0
  ·exact of_decide_eq_true h
 ·rw [← a2]
  rcases a5 with h | h
  ·rw [h]; omega
  ·have := of_decide_eq_false h; omega
/-! ### products of spans -/
def min4 (p q r s : Int) : Int := min (min p q) (min r s)
def max4 (p q r s : Int) : Int := max (max p q) (max r s)
def mulM (s t : Int × Int) : Int × Int := (min4 (s.1 * t.1) (s.1 * t.2) (s.2 * t.1) (s.2 * t.2) / 1000000000, upd (max4 (s.1 * t.1) (s.1 * t.2) (s.2 * t.1) (s.2 * t.2)) 1000000000)
def OkM (s : Int × Int) : Prop := -1073000000 ≤ s.1 ∧ s.1 ≤ s.2 ∧ s.2 ≤ 1073000000
theorem upd_mono {a b c : Int} (hc : 0 < c) (h : a ≤ b) : upd a c ≤ upd b c := by
 have := upd_ge (a := b) hc
 exact upd_le hc (by omega)
theorem dn_mono {a b c : Int} (hc : 0 < c) (h : a ≤ b) : a / c ≤ b / c := Int.ediv_le_ediv hc h
theorem dn_up {a b : Int} (hb : 0 < b) : a / b ≤ upd a b := by
 have h1 := dn_le (a := a) hb
 have h2 := upd_ge (a := a) hb
 have : a / b * b ≤ upd a b * b := by omega
 exact Int.le_of_mul_le_mul_right this hb
theorem mulM_ok (s t : Int × Int) : (mulM s t).1 ≤ (mulM s t).2 := by
 have h1 : (mulM s t).1 ≤ s.1 * t.1 / 1000000000 := dn_mono (by omega) (by unfold min4; omega)
 have h2 : upd (s.1 * t.1) 1000000000 ≤ (mulM s t).2 := upd_mono (by omega) (by unfold max4; omega)
 have h3 := dn_up (a := s.1 * t.1) (b := 1000000000) (by omega)
 omega
theorem mulM_bd {s t : Int × Int} {A B C : Int} (h1 : -A ≤ s.1) (h2 : s.1 ≤ A) (h3 : -A ≤ s.2) (h4 : s.2 ≤ A) (h5 : -B ≤ t.1) (h6 : t.1 ≤ B) (h7 : -B ≤ t.2) (h8 : t.2 ≤ B) (hC : A * B ≤ C * 1000000000) :
  -C ≤ (mulM s t).1 ∧ (mulM s t).1 ≤ C ∧ -C ≤ (mulM s t).2 ∧ (mulM s t).2 ≤ C := by
 have b1 := mul_bd h1 h2 h5 h6
 have b2 := mul_bd h1 h2 h7 h8
 have b3 := mul_bd h3 h4 h5 h6
 have b4 := mul_bd h3 h4 h7 h8
 have o := mulM_ok s t
 have lo : -C ≤ (mulM s t).1 := by
  show -C ≤ _ / _
  rw [Int.le_ediv_iff_mul_le (by omega)]
  unfold min4
  omega
 have hi : (mulM s t).2 ≤ C := upd_le (by omega) (by unfold max4; omega)
 omega
theorem mulM_comm (s t : Int × Int) : mulM s t = mulM t s := by
 unfold mulM
 rw [Int.mul_comm t.1 s.1, Int.mul_comm t.1 s.2, Int.mul_comm t.2 s.1, Int.mul_comm t.2 s.2]
 unfold min4 max4
 congr 2 <;> omega
theorem upd_neg (a b : Int) : upd (-a) b = -(a / b) := by unfold upd; rw [Int.neg_neg]
theorem dn_neg (a b : Int) : (-a) / b = -upd a b := by unfold upd; omega
theorem mulM_neg (s t : Int × Int) : mulM (negM s) t = negM (mulM s t) := by
 unfold mulM negM
 simp only [Int.neg_mul]
 have e1 : min4 (-(s.2 * t.1)) (-(s.2 * t.2)) (-(s.1 * t.1)) (-(s.1 * t.2)) = -max4 (s.1 * t.1) (s.1 * t.2) (s.2 * t.1) (s.2 * t.2) := by unfold min4 max4; omega
 have e2 : max4 (-(s.2 * t.1)) (-(s.2 * t.2)) (-(s.1 * t.1)) (-(s.1 * t.2)) = -min4 (s.1 * t.1) (s.1 * t.2) (s.2 * t.1) (s.2 * t.2) := by unfold min4 max4; omega
 rw [e1, e2, dn_neg, upd_neg]
theorem SpanOk_is (x y : Int) : impl_SpanOk.f x y = some (decide (-1073000000 ≤ x ∧ x ≤ y ∧ y ≤ 1073000000)) ∧ spec_SpanOk.f x y = some (decide (-1073000000 ≤ x ∧ x ≤ y ∧ y ≤ 1073000000)) := by
 unfold impl_SpanOk.f spec_SpanOk.f
 simp only [in_is, sin_is, Option.bind_some]
 by_cases c1 : -1073000000 ≤ x <;> by_cases c2 : x ≤ y <;> by_cases c3 : y ≤ 1073000000
 all_goals first
  | (have c4 : x ≤ 1073000000 := (by omega); have c5 : -1073000000 ≤ y := (by omega); simp [c1, c2, c3, c4, c5])
  | (by_cases c4 : x ≤ 1073000000 <;> by_cases c5 : -1073000000 ≤ y <;> simp [c1, c2, c3, c4, c5])
theorem impl_root_tells (a : Int) (ha : 0 ≤ a) (ha2 : a ≤ 1152921504606846976) (d : Nat) : ∀ (k : Nat) (lo hi : Int), 0 ≤ lo → lo ≤ hi → hi ≤ 1073741824 → hi - lo < 2 ^ d → d < k →
  lo * lo ≤ a → a < (hi + 1) * (hi + 1) → ∃ r, impl_root.l0 k a lo hi = some r ∧ IsRoot a r := by
 induction d with
 | zero =>
  intro k lo hi h0 h1 h2 hd hk hlo hhi
  obtain ⟨k, rfl⟩ : ∃ m, k = m + 1 := ⟨k - 1, by omega⟩
  have : ¬ lo < hi := by omega
  obtain rfl : lo = hi := by omega
  exact ⟨lo, by simp only [impl_root.l0]; rw [if_neg this], h0, hlo, hhi⟩
 | succ d ih =>
  intro k lo hi h0 h1 h2 hd hk hlo hhi
  obtain ⟨k, rfl⟩ : ∃ m, k = m + 1 := ⟨k - 1, by omega⟩
  have hp : (2 : Int) ^ (d + 1) = 2 * 2 ^ d := by rw [Int.pow_succ]; omega
  simp only [impl_root.l0]
  by_cases h : lo < hi
  ·rw [if_pos h]
   have e1 : wrap64 (Int.tdiv (wrap64 ((wrap64 (lo + hi)) + 1)) 2) = (lo + hi + 1) / 2 := by
    rw [w64 (x := lo + hi) (by omega) (by omega), w64 (x := lo + hi + 1) (by omega) (by omega), Int.tdiv_eq_ediv_of_nonneg (by omega)]
    exact w64 (by omega) (by omega)
   rw [e1]
   generalize hm : (lo + hi + 1) / 2 = m
   have m1 : lo < m := by omega
   have m2 : m ≤ hi := by omega
   have hs := sq_bd (a := m) (A := 1073741824) (by omega) (by omega)
   rw [w64 (x := m * m) (by omega) (by omega), w64 (x := m - 1) (by omega) (by omega)]
   by_cases hc : m * m ≤ a
   ·rw [if_pos hc]
    exact ih k m hi (by omega) (by omega) (by omega) (by omega) (by omega) hc hhi
   ·rw [if_neg hc]
    exact ih k lo (m - 1) h0 (by omega) (by omega) (by omega) (by omega) hlo (by rw [Int.sub_add_cancel]; omega)
  ·rw [if_neg h]
   obtain rfl : lo = hi := by omega
   exact ⟨lo, rfl, h0, hlo, hhi⟩
theorem impl_root_is (a : Int) (ha : 0 ≤ a) (ha2 : a ≤ 1152921504606846976) (k : Nat) (hk : 40 ≤ k) : ∃ r, impl_root.f k a = some r ∧ IsRoot a r :=
 impl_root_tells a ha ha2 31 k 0 1073741824 (by omega) (by omega) (by omega) (by omega) (by omega) (by omega) (by omega)
theorem spec_root_tells (a : Int) (ha : 0 ≤ a) (ha2 : a ≤ 1152921504606846976) (d : Nat) : ∀ (k : Nat) (lo hi : Int), 0 ≤ lo → lo < hi → hi ≤ 1073741825 → hi - lo ≤ 2 ^ d → d < k →
  lo * lo ≤ a → a < hi * hi → ∃ r, spec_l1Root.l0 k a lo hi = some r ∧ IsRoot a r := by
 induction d with
 | zero =>
  intro k lo hi h0 h1 h2 hd hk hlo hhi
  obtain ⟨k, rfl⟩ : ∃ m, k = m + 1 := ⟨k - 1, by omega⟩
  obtain rfl : hi = lo + 1 := by omega
  refine ⟨lo, ?_, h0, hlo, hhi⟩
  simp only [spec_l1Root.l0]
  rw [w64 (x := lo + 1 - lo) (by omega) (by omega), if_neg (by omega)]
 | succ d ih =>
  intro k lo hi h0 h1 h2 hd hk hlo hhi
  obtain ⟨k, rfl⟩ : ∃ m, k = m + 1 := ⟨k - 1, by omega⟩
  have hp : (2 : Int) ^ (d + 1) = 2 * 2 ^ d := by rw [Int.pow_succ]; omega
  simp only [spec_l1Root.l0]
  rw [w64 (x := hi - lo) (by omega) (by omega)]
  by_cases h : hi - lo > 1
  ·rw [if_pos h]
   have e1 : wrap64 (lo + wrap64 (Int.tdiv (hi - lo) 2)) = lo + (hi - lo) / 2 := by
    rw [Int.tdiv_eq_ediv_of_nonneg (by omega), w64 (x := (hi - lo) / 2) (by omega) (by omega)]
    exact w64 (by omega) (by omega)
   rw [e1]
   generalize hm : lo + (hi - lo) / 2 = m
   have m1 : lo < m := by omega
   have m2 : m < hi := by omega
   have hs := sq_bd (a := m) (A := 1073741824) (by omega) (by omega)
   rw [w64 (x := m * m) (by omega) (by omega)]
   by_cases hc : m * m ≤ a
   ·rw [if_pos hc]
    exact ih k m hi (by omega) (by omega) (by omega) (by omega) (by omega) hc hhi
   ·rw [if_neg hc]
    exact ih k lo m h0 (by omega) (by omega) (by omega) (by omega) hlo (by omega)
  ·rw [if_neg h]
   obtain rfl : hi = lo + 1 := by omega
   exact ⟨lo, rfl, h0, hlo, hhi⟩
theorem spec_root_is (a : Int) (ha : 0 ≤ a) (ha2 : a ≤ 1152921504606846976) (k : Nat) (hk : 40 ≤ k) : ∃ r, spec_l1Root.f k a = some r ∧ IsRoot a r :=
 spec_root_tells a ha ha2 31 k 0 1073741825 (by omega) (by omega) (by omega) (by omega) (by omega) (by omega) (by omega)
/-- The root rounded up. -/
def ceilRoot (a r : Int) : Int := if r * r < a then r + 1 else r
theorem roots (a : Int) (ha : 0 ≤ a) (ha2 : a ≤ 1152921504606846976) (k : Nat) (hk : 40 ≤ k) : ∃ r, IsRoot a r ∧ impl_root.f k a = some r ∧ spec_l1Root.f k a = some r ∧
  impl_rootUp.f k a = some (ceilRoot a r) ∧ spec_l2RootUp.f k a = some (ceilRoot a r) := by
 obtain ⟨r, h1, h2⟩ := impl_root_is a ha ha2 k hk
 obtain ⟨s, k1, k2⟩ := spec_root_is a ha ha2 k hk
 obtain rfl := h2.unique k2
 have hb := h2.le (B := 1073741824) (by omega) (by omega)
 have h0 := h2.1
 have hs := sq_bd (a := r) (A := 1073741824) (by omega) (by omega)
 refine ⟨r, h2, h1, k1, ?_, ?_⟩
 ·unfold impl_rootUp.f ceilRoot
  rw [h1]; simp only [Option.bind_some]
  rw [w64 (x := r * r) (by omega) (by omega), w64 (x := r + 1) (by omega) (by omega)]
  split <;> rfl
 ·unfold spec_l2RootUp.f ceilRoot
  rw [k1]; simp only [Option.bind_some]
  rw [w64 (x := r * r) (by omega) (by omega), w64 (x := r + 1) (by omega) (by omega)]
  split <;> rfl
/-! ### what is reckoned: how large it is -/
mutual
def nodes : S25 → Nat
 | ⟨_, _, _, l⟩ => 1 + nodesL l
def nodesL : List S25 → Nat
 | [] => 0
 | x :: l => nodes x + nodesL l
end
def kidsN (f : Int) : Int := if f = 1 ∨ f = 4 then 0 else if f = 2 ∨ f = 3 then 1 else if 5 ≤ f ∧ f ≤ 8 then 2 else -1
def fineM (f0 f1 f2 : Int) : Prop := if f0 = 1 then (-1000 ≤ f1 ∧ f1 ≤ 1000) ∧ (1 ≤ f2 ∧ f2 ≤ 1000) else if f0 = 4 then (-129600000 ≤ f1 ∧ f1 ≤ 129600000) ∧ f2 = 0 else f1 = 0 ∧ f2 = 0
instance (f0 f1 f2 : Int) : Decidable (fineM f0 f1 f2) := by unfold fineM; exact inferInstance
def headOk (f0 f1 f2 : Int) (n : Nat) : Prop := (n : Int) = kidsN f0 ∧ fineM f0 f1 f2
instance (f0 f1 f2 : Int) (n : Nat) : Decidable (headOk f0 f1 f2 n) := by unfold headOk; exact inferInstance
mutual
def sizeM : S25 → Int
 | ⟨f0, f1, f2, l⟩ => if headOk f0 f1 f2 l.length then 1 + sizeL l else 16
def sizeL : List S25 → Int
 | [] => 0
 | x :: l => sizeM x + sizeL l
end
theorem nodes_pos (e : S25) : 1 ≤ nodes e := by cases e; rw [nodes]; omega
theorem size_bd (N : Nat) : (∀ e, nodes e ≤ N → 1 ≤ sizeM e ∧ sizeM e ≤ 16 * (nodes e : Int)) ∧ (∀ l, nodesL l ≤ N → 0 ≤ sizeL l ∧ sizeL l ≤ 16 * (nodesL l : Int)) := by
 induction N with
 | zero =>
  refine ⟨fun e h => by have := nodes_pos e; omega, fun l h => ?_⟩
  cases l with
  | nil => rw [sizeL, nodesL]; omega
  | cons x l => rw [nodesL] at h; have := nodes_pos x; omega
 | succ N ih =>
  have A : ∀ e, nodes e ≤ N + 1 → 1 ≤ sizeM e ∧ sizeM e ≤ 16 * (nodes e : Int) := by
   intro e h
   obtain ⟨f0, f1, f2, l⟩ := e
   rw [nodes] at h
   have := ih.2 l (by omega)
   rw [sizeM, nodes]
   split <;> omega
  refine ⟨A, fun l => ?_⟩
  induction l with
  | nil => intro h; rw [sizeL, nodesL]; omega
  | cons x l il =>
   intro h
   rw [nodesL] at h
   have a := A x (by omega)
   have b := il (by omega)
   rw [sizeL, nodesL]
   omega
theorem sizeM_bd (e : S25) : 1 ≤ sizeM e ∧ sizeM e ≤ 16 * (nodes e : Int) := (size_bd (nodes e)).1 e (Nat.le_refl _)
theorem sizeL_bd (l : List S25) : 0 ≤ sizeL l ∧ sizeL l ≤ 16 * (nodesL l : Int) := (size_bd (nodesL l)).2 l (Nat.le_refl _)
/-- What is not too large has few parts. -/
theorem ok_nodes (N : Nat) : (∀ e, nodes e ≤ N → sizeM e ≤ 15 → (nodes e : Int) ≤ sizeM e) ∧ (∀ l, nodesL l ≤ N → sizeL l ≤ 15 → (nodesL l : Int) ≤ sizeL l) := by
 induction N with
 | zero =>
  refine ⟨fun e h => by have := nodes_pos e; omega, fun l h => ?_⟩
  cases l with
  | nil => intro _; rw [sizeL, nodesL]; omega
  | cons x l => rw [nodesL] at h; have := nodes_pos x; omega
 | succ N ih =>
  have A : ∀ e, nodes e ≤ N + 1 → sizeM e ≤ 15 → (nodes e : Int) ≤ sizeM e := by
   intro e h
   obtain ⟨f0, f1, f2, l⟩ := e
   rw [nodes] at h
   have := ih.2 l (by omega)
   rw [sizeM, nodes]
   split <;> omega
  refine ⟨A, fun l => ?_⟩
  induction l with
  | nil => intro h _; rw [sizeL, nodesL]; omega
  | cons x l il =>
   intro h h2
   rw [nodesL] at h
   rw [sizeL] at h2
   have a1 := sizeM_bd x
   have b1 := sizeL_bd l
   have a := A x (by omega) (by omega)
   have b := il (by omega) (by omega)
   rw [sizeL, nodesL]
   omega
theorem ok_few {e : S25} (h : sizeM e ≤ 15) : nodes e ≤ 15 := by have := (ok_nodes (nodes e)).1 e (Nat.le_refl _) h; omega
/-- What is not too large is in form, and so are its parts. -/
theorem ok_parts {f0 f1 f2 : Int} {l : List S25} (h : sizeM ⟨f0, f1, f2, l⟩ ≤ 15) : headOk f0 f1 f2 l.length ∧ sizeM ⟨f0, f1, f2, l⟩ = 1 + sizeL l := by
 rw [sizeM] at h ⊢
 by_cases c : headOk f0 f1 f2 l.length
 ·rw [if_pos c]; exact ⟨c, rfl⟩
 ·rw [if_neg c] at h; omega
theorem part_le {l : List S25} {x : S25} (h : x ∈ l) : sizeM x ≤ sizeL l ∧ nodes x ≤ nodesL l := by
 induction l with
 | nil => cases h
 | cons y l ih =>
  rw [sizeL, nodesL]
  have a := sizeM_bd y
  have b := sizeL_bd l
  rcases List.mem_cons.1 h with h | h
  ·subst h; omega
  ·have := ih h; have := sizeM_bd x; omega
/-! ### spans reckoned, with what is told where it does not fit -/
def fitR (lo hi : Int) : Int × Int × Bool := if -1073000000 ≤ lo ∧ lo ≤ hi ∧ hi ≤ 1073000000 then (lo, hi, true) else (0, 0, false)
def isNum (a b : Int) : Prop := (-1000000000 ≤ a ∧ a ≤ 1000000000) ∧ (1 ≤ b ∧ b ≤ 1000000000)
instance (a b : Int) : Decidable (isNum a b) := by unfold isNum; exact inferInstance
instance (s : Int × Int) : Decidable (OkM s) := by unfold OkM; exact inferInstance
def ofR (a b : Int) : Int × Int × Bool := if isNum a b then fitR (a * 1000000000 / b) (upd (a * 1000000000) b) else (0, 0, false)
def negR (s : Int × Int) : Int × Int × Bool := (-s.2, -s.1, true)
def rootR (s : Int × Int) : Int × Int × Bool := if 0 ≤ s.1 then fitR (rootM (1000000000 * s.1)) (ceilM (1000000000 * s.2)) else (0, 0, false)
def sineR (a : Int) : Int × Int × Bool := ((sineM (2 * a)).1, (sineM (2 * a)).2, true)
def addR (s t : Int × Int) : Int × Int × Bool := fitR (s.1 + t.1) (s.2 + t.2)
def subR (s t : Int × Int) : Int × Int × Bool := fitR (s.1 - t.2) (s.2 - t.1)
def mulR (s t : Int × Int) : Int × Int × Bool := fitR (mulM s t).1 (mulM s t).2
def divP (s t : Int × Int) : Int × Int × Bool := fitR (min (s.1 * 1000000000 / t.1) (s.1 * 1000000000 / t.2)) (max (upd (s.2 * 1000000000) t.1) (upd (s.2 * 1000000000) t.2))
def divR (s t : Int × Int) : Int × Int × Bool := if t.1 ≤ 0 ∧ 0 ≤ t.2 then (0, 0, false) else if t.2 < 0 then divP (negM s) (negM t) else divP s t
def opM (f0 f1 f2 : Int) (s t : Int × Int) : Int × Int × Bool :=
 if f0 = 1 then ofR f1 f2 else if f0 = 2 then negR s else if f0 = 3 then rootR s else if f0 = 4 then sineR f1 else if f0 = 5 then addR s t else if f0 = 6 then subR s t else if f0 = 7 then mulR s t else divR s t
def pairOf (x : Int × Int × Bool) : Int × Int := (x.1, x.2.1)
def okR (x : Int × Int × Bool) : Prop := (x.2.2 = true ∧ OkM (pairOf x)) ∨ x = (0, 0, false)
theorem fit_ok (lo hi : Int) : okR (fitR lo hi) := by
 unfold fitR
 by_cases h : -1073000000 ≤ lo ∧ lo ≤ hi ∧ hi ≤ 1073000000
 ·rw [if_pos h]; exact .inl ⟨rfl, h⟩
 ·rw [if_neg h]; exact .inr rfl
theorem op_ok {f0 f1 f2 : Int} {s t : Int × Int} (hs : OkM s) : okR (opM f0 f1 f2 s t) := by
 unfold opM
 have bad : okR (0, 0, false) := .inr rfl
 split
 ·unfold ofR; split
  ·exact fit_ok _ _
  ·exact bad
 split
 ·obtain ⟨h1, h2, h3⟩ := hs
  exact .inl ⟨rfl, by show -1073000000 ≤ -s.2; omega, by show -s.2 ≤ -s.1; omega, by show -s.1 ≤ 1073000000; omega⟩
 split
 ·unfold rootR; split
  ·exact fit_ok _ _
  ·exact bad
 split
 ·have e := sine_ends (2 * f1)
  exact .inl ⟨rfl, by show -1073000000 ≤ (sineM (2 * f1)).1; omega, e.2.1, by show (sineM (2 * f1)).2 ≤ 1073000000; omega⟩
 split
 ·exact fit_ok _ _
 split
 ·exact fit_ok _ _
 split
 ·exact fit_ok _ _
 ·unfold divR; split
  ·exact bad
  split
  ·exact fit_ok _ _
  ·exact fit_ok _ _
/-! What is reckoned, of the spans of the parts. -/
mutual
def spanM : S25 → Int × Int × Bool
 | ⟨f0, f1, f2, l⟩ => if (spansM l).1 = true then opM f0 f1 f2 ((spansM l).2.getD 0 (0, 0)) ((spansM l).2.getD 1 (0, 0)) else (0, 0, false)
def spansM : List S25 → Bool × List (Int × Int)
 | [] => (true, [])
 | x :: l => if (spanM x).2.2 = true then ((spansM l).1, ((spanM x).1, (spanM x).2.1) :: (spansM l).2) else (false, [])
end
theorem span_ok (N : Nat) : ∀ e : S25, nodes e ≤ N → okR (spanM e) := by
 induction N with
 | zero => intro e h; have := nodes_pos e; omega
 | succ N ih =>
  intro e h
  obtain ⟨f0, f1, f2, l⟩ := e
  rw [nodes] at h
  rw [spanM]
  split
  ·apply op_ok
   cases l with
   | nil => rw [spansM]; exact ⟨by decide, by decide, by decide⟩
   | cons x l =>
    rw [nodesL] at h
    have hx := ih x (by omega)
    rw [spansM]
    by_cases c : (spanM x).2.2 = true
    ·rw [if_pos c]
     rcases hx with hx | hx
     ·exact hx.2
     ·rw [hx] at c; cases c
    ·rw [if_neg c]; exact ⟨by decide, by decide, by decide⟩
  ·exact .inr rfl
theorem spanM_ok (e : S25) : okR (spanM e) := span_ok (nodes e) e (Nat.le_refl _)
theorem okR.pair {x : Int × Int × Bool} (h : okR x) (c : x.2.2 = true) : OkM (x.1, x.2.1) := by
 rcases h with h | h
 ·exact h.2
 ·rw [h] at c; cases c
theorem okR.none {x : Int × Int × Bool} (h : okR x) (c : ¬ x.2.2 = true) : x = (0, 0, false) := by
 rcases h with h | h
 ·exact absurd h.1 c
 ·exact h
theorem span_0 (f0 f1 f2 : Int) : spanM ⟨f0, f1, f2, []⟩ = opM f0 f1 f2 (0, 0) (0, 0) := by rw [spanM, spansM]; rfl
theorem span_1 (f0 f1 f2 : Int) (x : S25) : spanM ⟨f0, f1, f2, [x]⟩ = if (spanM x).2.2 = true then opM f0 f1 f2 ((spanM x).1, (spanM x).2.1) (0, 0) else (0, 0, false) := by
 rw [spanM, spansM, spansM]
 by_cases c : (spanM x).2.2 = true
 ·rw [if_pos c, if_pos c, if_pos rfl]; rfl
 ·rw [if_neg c, if_neg c]; rfl
theorem span_2 (f0 f1 f2 : Int) (x y : S25) : spanM ⟨f0, f1, f2, [x, y]⟩ = if (spanM x).2.2 = true then (if (spanM y).2.2 = true then opM f0 f1 f2 ((spanM x).1, (spanM x).2.1) ((spanM y).1, (spanM y).2.1) else (0, 0, false)) else (0, 0, false) := by
 rw [spanM, spansM, spansM, spansM]
 by_cases c : (spanM x).2.2 = true
 ·rw [if_pos c, if_pos c]
  by_cases d : (spanM y).2.2 = true
  ·rw [if_pos d, if_pos d, if_pos rfl]; rfl
  ·rw [if_neg d, if_neg d]; rfl
 ·rw [if_neg c, if_neg c]; rfl
/-! ### spans reckoned: both tell the same -/
theorem told_full (x y : Int) : impl_told.f x y = some (fitR x y) := by
 unfold impl_told.f fitR
 rw [(SpanOk_is x y).1]
 by_cases h : -1073000000 ≤ x ∧ x ≤ y ∧ y ≤ 1073000000
 ·rw [if_pos h, decide_eq_true h]; rfl
 ·rw [if_neg h, decide_eq_false h]; rfl
theorem fit_full (x y : Int) : spec_l2Fit.f x y = some (fitR x y) := by
 unfold spec_l2Fit.f fitR
 rw [(SpanOk_is x y).2]
 by_cases h : -1073000000 ≤ x ∧ x ≤ y ∧ y ≤ 1073000000
 ·rw [if_pos h, decide_eq_true h]; rfl
 ·rw [if_neg h, decide_eq_false h]; rfl
theorem isNum_is (a b : Int) : impl_isNumber.f a b = some (decide (isNum a b)) ∧ spec_l2Rat.f a b = some (decide (isNum a b)) := by
 unfold impl_isNumber.f spec_l2Rat.f isNum
 simp only [in_is, sin_is, Option.bind_some]
 by_cases h : -1000000000 ≤ a ∧ a ≤ 1000000000
 ·simp [h]
 ·simp [h]
theorem SpanOf_is (a b : Int) : impl_SpanOf.f a b = some (ofR a b) ∧ spec_SpanOf.f a b = some (ofR a b) := by
 unfold impl_SpanOf.f spec_SpanOf.f ofR
 rw [(isNum_is a b).1, (isNum_is a b).2]
 simp only [Option.bind_some]
 by_cases h : isNum a b
 ·rw [decide_eq_true h, if_pos rfl, if_pos h, if_pos rfl]
  obtain ⟨⟨h1, h2⟩, h3, h4⟩ := h
  rw [w64 (x := a * 1000000000) (by omega) (by omega), down_is (by omega) (by omega) (by omega), up_is (by omega) (by omega) (by omega), sdown_is (by omega) (by omega) (by omega) (by omega), sup_is (by omega) (by omega) (by omega) (by omega)]
  simp only [Option.bind_some]
  rw [told_full, fit_full]
  exact ⟨rfl, rfl⟩
 ·rw [decide_eq_false h, if_neg h]
  exact ⟨rfl, rfl⟩
theorem SpanNeg_is {s : Int × Int} (hs : OkM s) : impl_SpanNeg.f s.1 s.2 = some (-s.2, -s.1) ∧ spec_SpanNeg.f s.1 s.2 = some (-s.2, -s.1) := neg_is hs.1 hs.2.1 hs.2.2
theorem root_is {n : Int} (h0 : 0 ≤ n) (h1 : n ≤ 1073000000) {k : Nat} (hk : 40 ≤ k) : impl_root.f k (1000000000 * n) = some (rootM (1000000000 * n)) ∧ spec_l1Root.f k (1000000000 * n) = some (rootM (1000000000 * n)) ∧
  impl_rootUp.f k (1000000000 * n) = some (ceilM (1000000000 * n)) ∧ spec_l2RootUp.f k (1000000000 * n) = some (ceilM (1000000000 * n)) := by
 obtain ⟨r, i, a, b, c, d⟩ := roots (1000000000 * n) (by omega) (by omega) k hk
 obtain rfl := i.unique (rootM_is (by omega) (by omega))
 exact ⟨a, b, c, d⟩
theorem SpanRoot_is {s : Int × Int} (h : OkM s) {k : Nat} (hk : 50 ≤ k) : impl_SpanRoot.f k s.1 s.2 = some (rootR s) ∧ spec_SpanRoot.f k s.1 s.2 = some (rootR s) := by
 obtain ⟨k, rfl⟩ : ∃ q, k = q + 1 := ⟨k - 1, by omega⟩
 have d := decide_eq_true h
 obtain ⟨h1, h2, h3⟩ := h
 unfold impl_SpanRoot.f spec_SpanRoot.f rootR
 rw [(SpanOk_is s.1 s.2).1, (SpanOk_is s.1 s.2).2]
 have d : decide (-1073000000 ≤ s.1 ∧ s.1 ≤ s.2 ∧ s.2 ≤ 1073000000) = true := decide_eq_true ⟨h1, h2, h3⟩
 rw [d]
 simp only [Option.bind_some, if_true]
 rw [impl_SpanRoot.j0, spec_SpanRoot.j0]
 by_cases c : 0 ≤ s.1
 ·have d2 : decide (s.1 < 0) = false := decide_eq_false (by omega)
  rw [d2, if_neg (show ¬ (false = true) by decide), if_neg (show ¬ (false = true) by decide), if_pos c, Int.mul_comm s.1, Int.mul_comm s.2, w64 (x := 1000000000 * s.1) (by omega) (by omega), w64 (x := 1000000000 * s.2) (by omega) (by omega)]
  obtain ⟨a, b, -, -⟩ := root_is c (show s.1 ≤ 1073000000 by omega) (k := k) (by omega)
  obtain ⟨-, -, c, e⟩ := root_is (show 0 ≤ s.2 by omega) h3 (k := k) (by omega)
  rw [a, b, c, e]
  simp only [Option.bind_some]
  rw [told_full, fit_full]
  exact ⟨rfl, rfl⟩
 ·have d2 : decide (s.1 < 0) = true := decide_eq_true (by omega)
  rw [d2, if_pos rfl, if_pos rfl, if_neg c]
  exact ⟨rfl, rfl⟩
theorem SineOfR_is {a : Int} {k : Nat} (hk : 100 ≤ k) (h1 : -1000000000000 ≤ a) (h2 : a ≤ 1000000000000) : impl_SineOf.f k a = some (sineR a) ∧ spec_SineOf.f k a = some (sineR a) := by
 unfold impl_SineOf.f impl_isAngle.f spec_SineOf.f spec_l11Ok.f sineR
 simp only [in_is, sin_is, Option.bind_some, h1, h2, and_self, decide_true, if_true]
 rw [w64 (x := 2 * a) (by omega) (by omega), (sine_is (h := 2 * a) (by omega) (by omega) (by omega)).1, (sine_is (h := 2 * a) (by omega) (by omega) (by omega)).2]
 exact ⟨rfl, rfl⟩
theorem SpanAdd_is {s t : Int × Int} (hs : OkM s) (ht : OkM t) : impl_SpanAdd.f s.1 s.2 t.1 t.2 = some (addR s t) ∧ spec_SpanAdd.f s.1 s.2 t.1 t.2 = some (addR s t) := by
 obtain ⟨s1, s2, s3⟩ := hs
 obtain ⟨t1, t2, t3⟩ := ht
 unfold impl_SpanAdd.f spec_SpanAdd.f addR
 rw [(SpanOk_is s.1 s.2).1, (SpanOk_is t.1 t.2).1, (SpanOk_is s.1 s.2).2, (SpanOk_is t.1 t.2).2]
 simp only [s1, s2, s3, t1, t2, t3, and_self, decide_true, Option.bind_some, if_true]
 rw [w64 (x := s.1 + t.1) (by omega) (by omega), w64 (x := s.2 + t.2) (by omega) (by omega), told_full, fit_full]
 exact ⟨rfl, rfl⟩
theorem SpanSub_is {s t : Int × Int} (hs : OkM s) (ht : OkM t) : impl_SpanSub.f s.1 s.2 t.1 t.2 = some (subR s t) ∧ spec_SpanSub.f s.1 s.2 t.1 t.2 = some (subR s t) := by
 have hn : OkM (-t.2, -t.1) := ⟨by have := ht.2.2; dsimp only; omega, by have := ht.2.1; dsimp only; omega, by have := ht.1; dsimp only; omega⟩
 have a := SpanAdd_is hs hn
 dsimp only at a
 have e : addR s (-t.2, -t.1) = subR s t := by unfold addR subR; dsimp only; rw [← Int.sub_eq_add_neg, ← Int.sub_eq_add_neg]
 rw [e] at a
 have n := SpanNeg_is ht
 obtain ⟨t1, t2, t3⟩ := ht
 unfold impl_SpanSub.f spec_SpanSub.f
 rw [(SpanOk_is t.1 t.2).1, w64 (x := -t.2) (by omega) (by omega), w64 (x := -t.1) (by omega) (by omega), a.2]
 simp only [t1, t2, t3, and_self, decide_true, Option.bind_some, if_true]
 rw [n.1]
 simp only [Option.bind_some]
 rw [a.1]
 exact ⟨by first | rfl | trivial, by first | rfl | trivial⟩
theorem SpanMul_is {s t : Int × Int} (hs : OkM s) (ht : OkM t) {k : Nat} (hk : 1 ≤ k) : impl_SpanMul.f k s.1 s.2 t.1 t.2 = some (mulR s t) ∧ spec_SpanMul.f k s.1 s.2 t.1 t.2 = some (mulR s t) := by
 obtain ⟨k, rfl⟩ : ∃ q, k = q + 1 := ⟨k - 1, by omega⟩
 obtain ⟨s1, s2, s3⟩ := hs
 obtain ⟨t1, t2, t3⟩ := ht
 have b1 := mul_bd (a := s.1) (b := t.1) (A := 1073000000) (B := 1073000000) (by omega) (by omega) (by omega) (by omega)
 have b2 := mul_bd (a := s.1) (b := t.2) (A := 1073000000) (B := 1073000000) (by omega) (by omega) (by omega) (by omega)
 have b3 := mul_bd (a := s.2) (b := t.1) (A := 1073000000) (B := 1073000000) (by omega) (by omega) (by omega) (by omega)
 have b4 := mul_bd (a := s.2) (b := t.2) (A := 1073000000) (B := 1073000000) (by omega) (by omega) (by omega) (by omega)
 unfold impl_SpanMul.f spec_SpanMul.f
 rw [(SpanOk_is s.1 s.2).1, (SpanOk_is s.1 s.2).2, (SpanOk_is t.1 t.2).1, (SpanOk_is t.1 t.2).2]
 have d1 : decide (-1073000000 ≤ s.1 ∧ s.1 ≤ s.2 ∧ s.2 ≤ 1073000000) = true := decide_eq_true ⟨s1, s2, s3⟩
 have d2 : decide (-1073000000 ≤ t.1 ∧ t.1 ≤ t.2 ∧ t.2 ≤ 1073000000) = true := decide_eq_true ⟨t1, t2, t3⟩
 rw [d1, d2]
 simp only [Option.bind_some, if_true, Bool.not_true]
 rw [impl_SpanMul.j0, spec_SpanMul.j0, if_neg (by decide), if_neg (by decide)]
 rw [w64 (x := s.1 * t.1) (by omega) (by omega), w64 (x := s.1 * t.2) (by omega) (by omega), w64 (x := s.2 * t.1) (by omega) (by omega), w64 (x := s.2 * t.2) (by omega) (by omega)]
 unfold spec_l2Four.f
 simp only [mn_is, mx_is, Option.bind_some]
 have e1 : min (min (min (s.1 * t.1) (s.1 * t.2)) (s.2 * t.1)) (s.2 * t.2) = min4 (s.1 * t.1) (s.1 * t.2) (s.2 * t.1) (s.2 * t.2) := by unfold min4; omega
 have e2 : max (max (max (s.1 * t.1) (s.1 * t.2)) (s.2 * t.1)) (s.2 * t.2) = max4 (s.1 * t.1) (s.1 * t.2) (s.2 * t.1) (s.2 * t.2) := by unfold max4; omega
 have e3 : min (min (s.1 * t.1) (s.1 * t.2)) (min (s.2 * t.1) (s.2 * t.2)) = min4 (s.1 * t.1) (s.1 * t.2) (s.2 * t.1) (s.2 * t.2) := rfl
 have e4 : max (max (s.1 * t.1) (s.1 * t.2)) (max (s.2 * t.1) (s.2 * t.2)) = max4 (s.1 * t.1) (s.1 * t.2) (s.2 * t.1) (s.2 * t.2) := rfl
 have n1 : -1200000000000000000 ≤ min4 (s.1 * t.1) (s.1 * t.2) (s.2 * t.1) (s.2 * t.2) := by unfold min4; omega
 have n2 : min4 (s.1 * t.1) (s.1 * t.2) (s.2 * t.1) (s.2 * t.2) ≤ 1200000000000000000 := by unfold min4; omega
 have n3 : -1200000000000000000 ≤ max4 (s.1 * t.1) (s.1 * t.2) (s.2 * t.1) (s.2 * t.2) := by unfold max4; omega
 have n4 : max4 (s.1 * t.1) (s.1 * t.2) (s.2 * t.1) (s.2 * t.2) ≤ 1200000000000000000 := by unfold max4; omega
 rw [e1, e2, e3, e4, down_is (by omega) (by omega) (by omega), up_is (by omega) (by omega) (by omega), sdown_is (by omega) (by omega) (by omega) (by omega), sup_is (by omega) (by omega) (by omega) (by omega)]
 simp only [Option.bind_some]
 rw [told_full, fit_full]
 exact ⟨rfl, rfl⟩
theorem over_pos {a b : Int} (h1 : -1073000000 ≤ a) (h2 : a ≤ 1073000000) (h3 : 0 < b) (h4 : b ≤ 1073000000) : spec_l2Over.f a b = some (a * 1000000000 / b, upd (a * 1000000000) b) := by
 unfold spec_l2Over.f
 rw [if_neg (by omega), w64 (x := a * 1000000000) (by omega) (by omega), sdown_is h3 (by omega) (by omega) (by omega), sup_is h3 (by omega) (by omega) (by omega)]
 rfl
theorem over_neg {a b : Int} (h1 : -1073000000 ≤ a) (h2 : a ≤ 1073000000) (h3 : b < 0) (h4 : -1073000000 ≤ b) : spec_l2Over.f a b = some (-a * 1000000000 / -b, upd (-a * 1000000000) (-b)) := by
 unfold spec_l2Over.f
 rw [if_pos h3, w64 (x := -a) (by omega) (by omega), w64 (x := -b) (by omega) (by omega), w64 (x := -a * 1000000000) (by omega) (by omega), sdown_is (by omega) (by omega) (by omega) (by omega), sup_is (by omega) (by omega) (by omega) (by omega)]
 rfl
theorem divP_impl {s t : Int × Int} (hs : OkM s) (h1 : 0 < t.1) (h2 : 0 < t.2) (k : Nat) : impl_SpanDiv.j1 (k + 1) s.1 s.2 t.1 t.2 = some (divP s t) := by
 obtain ⟨s1, s2, s3⟩ := hs
 rw [impl_SpanDiv.j1, w64 (x := s.1 * 1000000000) (by omega) (by omega), w64 (x := s.2 * 1000000000) (by omega) (by omega), down_is h1 (by omega) (by omega), down_is h2 (by omega) (by omega), up_is h1 (by omega) (by omega), up_is h2 (by omega) (by omega)]
 simp only [Option.bind_some, mn_is, mx_is]
 rw [told_full]
 rfl
theorem SpanDiv_is {s t : Int × Int} (hs : OkM s) (ht : OkM t) {k : Nat} (hk : 3 ≤ k) : impl_SpanDiv.f k s.1 s.2 t.1 t.2 = some (divR s t) ∧ spec_SpanDiv.f k s.1 s.2 t.1 t.2 = some (divR s t) := by
 obtain ⟨k, rfl⟩ : ∃ q, k = q + 1 + 1 := ⟨k - 2, by omega⟩
 have hs' := hs
 have ht' := ht
 obtain ⟨s1, s2, s3⟩ := hs
 obtain ⟨t1, t2, t3⟩ := ht
 unfold impl_SpanDiv.f spec_SpanDiv.f
 rw [(SpanOk_is s.1 s.2).1, (SpanOk_is s.1 s.2).2, (SpanOk_is t.1 t.2).1, (SpanOk_is t.1 t.2).2]
 have d1 : decide (-1073000000 ≤ s.1 ∧ s.1 ≤ s.2 ∧ s.2 ≤ 1073000000) = true := decide_eq_true ⟨s1, s2, s3⟩
 have d2 : decide (-1073000000 ≤ t.1 ∧ t.1 ≤ t.2 ∧ t.2 ≤ 1073000000) = true := decide_eq_true ⟨t1, t2, t3⟩
 rw [d1, d2]
 simp only [in_is, Option.bind_some, if_true]
 by_cases z : t.1 ≤ 0 ∧ 0 ≤ t.2
 ·have e : divR s t = (0, 0, false) := if_pos z
  rw [e, decide_eq_true z, if_pos z.1, impl_SpanDiv.j0, spec_SpanDiv.j0, if_pos rfl, if_pos (decide_eq_true z.2)]
  exact ⟨rfl, rfl⟩
 ·have e0 : divR s t = if t.2 < 0 then divP (negM s) (negM t) else divP s t := if_neg z
  have e1 : (if t.1 ≤ 0 then spec_SpanDiv.j0 (k + 1 + 1) (decide (t.2 ≥ 0)) s.1 s.2 t.1 t.2 else spec_SpanDiv.j0 (k + 1 + 1) false s.1 s.2 t.1 t.2) = spec_SpanDiv.j0 (k + 1 + 1) false s.1 s.2 t.1 t.2 := by
   by_cases c : t.1 ≤ 0
   ·rw [if_pos c, decide_eq_false (show ¬ t.2 ≥ 0 by omega)]
   ·rw [if_neg c]
  rw [e1, decide_eq_false z, impl_SpanDiv.j0, spec_SpanDiv.j0, if_neg (show ¬ (false = true) by decide), if_neg (show ¬ (false = true) by decide), e0]
  by_cases c : t.2 < 0
  ·rw [if_pos c, if_pos c, (SpanNeg_is hs').1, (SpanNeg_is ht').1]
   simp only [Option.bind_some]
   constructor
   ·exact divP_impl (s := negM s) (t := negM t) ⟨by show -1073000000 ≤ -s.2; omega, by show -s.2 ≤ -s.1; omega, by show -s.1 ≤ 1073000000; omega⟩ (by show 0 < -t.2; omega) (by show 0 < -t.1; omega) k
   ·rw [over_neg s1 (by omega) (by omega) t1, over_neg s1 (by omega) c (by omega), over_neg (by omega) s3 (by omega) t1, over_neg (by omega) s3 c (by omega)]
    unfold spec_l2Four.f divP negM
    simp only [Option.bind_some, mn_is, mx_is]
    rw [fit_full]
    have m1 := dn_mono (a := -s.2 * 1000000000) (b := -s.1 * 1000000000) (c := -t.1) (by omega) (by omega)
    have m2 := dn_mono (a := -s.2 * 1000000000) (b := -s.1 * 1000000000) (c := -t.2) (by omega) (by omega)
    have m3 := upd_mono (a := -s.2 * 1000000000) (b := -s.1 * 1000000000) (c := -t.1) (by omega) (by omega)
    have m4 := upd_mono (a := -s.2 * 1000000000) (b := -s.1 * 1000000000) (c := -t.2) (by omega) (by omega)
    have x1 : min (min (-s.1 * 1000000000 / -t.1) (-s.1 * 1000000000 / -t.2)) (min (-s.2 * 1000000000 / -t.1) (-s.2 * 1000000000 / -t.2)) = min (-s.2 * 1000000000 / -t.2) (-s.2 * 1000000000 / -t.1) := by omega
    have x2 : max (max (upd (-s.1 * 1000000000) (-t.1)) (upd (-s.1 * 1000000000) (-t.2))) (max (upd (-s.2 * 1000000000) (-t.1)) (upd (-s.2 * 1000000000) (-t.2))) = max (upd (-s.1 * 1000000000) (-t.2)) (upd (-s.1 * 1000000000) (-t.1)) := by omega
    rw [x1, x2]
    rfl
  ·rw [if_neg c, if_neg c]
   constructor
   ·exact divP_impl hs' (by omega) (by omega) k
   ·rw [over_pos s1 (by omega) (by omega) (by omega), over_pos s1 (by omega) (by omega) t3, over_pos (by omega) s3 (by omega) (by omega), over_pos (by omega) s3 (by omega) t3]
    unfold spec_l2Four.f divP
    simp only [Option.bind_some, mn_is, mx_is]
    rw [fit_full]
    have m1 := dn_mono (a := s.1 * 1000000000) (b := s.2 * 1000000000) (c := t.1) (by omega) (by omega)
    have m2 := dn_mono (a := s.1 * 1000000000) (b := s.2 * 1000000000) (c := t.2) (by omega) (by omega)
    have m3 := upd_mono (a := s.1 * 1000000000) (b := s.2 * 1000000000) (c := t.1) (by omega) (by omega)
    have m4 := upd_mono (a := s.1 * 1000000000) (b := s.2 * 1000000000) (c := t.2) (by omega) (by omega)
    have x1 : min (min (s.1 * 1000000000 / t.1) (s.1 * 1000000000 / t.2)) (min (s.2 * 1000000000 / t.1) (s.2 * 1000000000 / t.2)) = min (s.1 * 1000000000 / t.1) (s.1 * 1000000000 / t.2) := by omega
    have x2 : max (max (upd (s.1 * 1000000000) t.1) (upd (s.1 * 1000000000) t.2)) (max (upd (s.2 * 1000000000) t.1) (upd (s.2 * 1000000000) t.2)) = max (upd (s.2 * 1000000000) t.1) (upd (s.2 * 1000000000) t.2) := by omega
    rw [x1, x2]
    rfl

end Go.Proofs.Ytlodpfddimeffaa.M

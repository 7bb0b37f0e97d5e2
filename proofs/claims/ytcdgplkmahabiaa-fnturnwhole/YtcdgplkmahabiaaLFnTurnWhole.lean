import Derived.Test.YtcdgplkmahabiaaP6
import Derived.Test.YtcdgplkmahabiaaDc
namespace Go.Proofs.Ytcdgplkmahabiaa.M
open Go.RowKit Go.Proofs.YtcdgplkmahabiaaW.PrintWords Go.Proofs.YtcdgplkmahabiaaW.PrintLast Go.Proofs.YtcdgplkmahabiaaW.PrintMore
attribute [local go_sem] max2_int min2_int max_two min_two max_three min_three max_four min_four
attribute [local go_sem high] eqA23 eqA30
attribute [local go_sem] fld23_0 fld23_1 fld30_0 fld30_1 fld55_0 fld55_1 fld55_2 fld55_3 fld55_4
set_option linter.unusedVariables false
set_option linter.unusedSimpArgs false
/-- A list of bytes. -/
def Bytes (l : List Int) : Prop := ∀ x ∈ l, 0 ≤ x ∧ x < 256
theorem bytes_of {l : List Int} (h : ∀ x ∈ l, (Lit.int .u8 x).wf = true) : Bytes l := by
  intro x hx
  have := h x hx
  simp [Lit.wf, IntKind.min, IntKind.max, IntKind.bits, IntKind.signed] at this
  omega
theorem Bytes.at_ {l : List Int} (h : Bytes l) (i : Int) : 0 ≤ rd l i ∧ rd l i < 256 := by
  unfold rd
  rw [List.getD_eq_getElem?_getD]
  rcases Nat.lt_or_ge i.toNat l.length with h1 | h1
  · rw [List.getElem?_eq_getElem h1]
    exact h _ (List.getElem_mem h1)
  · rw [List.getElem?_eq_none h1]; simp
theorem bits_xor {a b : Int} (ha : 0 ≤ a) (ha2 : a < 1099511627776) (hb : 0 ≤ b) (hb2 : b < 1099511627776) : 0 ≤ Go.bits .xor .i64 a b ∧ Go.bits .xor .i64 a b < 1099511627776 := by
  obtain ⟨a, rfl⟩ := Int.eq_ofNat_of_zero_le ha
  obtain ⟨b, rfl⟩ := Int.eq_ofNat_of_zero_le hb
  have h := Nat.xor_lt_two_pow (n := 40) (x := a) (y := b) (by omega) (by omega)
  have ea : a % 2 ^ 64 = a := Nat.mod_eq_of_lt (by omega)
  have eb : b % 2 ^ 64 = b := Nat.mod_eq_of_lt (by omega)
  have e : Go.bits .xor .i64 (a : Int) (b : Int) = ((a ^^^ b : Nat) : Int) := by
    show IntKind.i64.wrap ((BitVec.ofInt 64 (a : Int) ^^^ BitVec.ofInt 64 (b : Int)).toNat : Nat) = _
    rw [BitVec.ofInt_natCast, BitVec.ofInt_natCast, BitVec.toNat_xor, BitVec.toNat_ofNat, BitVec.toNat_ofNat, ea, eb, IntKind.wrap_i64]
    omega
  rw [e]
  omega
theorem tmod_bd {a n : Int} (ha : 0 ≤ a) (hn : 0 < n) : 0 ≤ Int.tmod a n ∧ Int.tmod a n < n :=
  ⟨Int.tmod_nonneg _ ha, Int.tmod_lt_of_pos _ hn⟩
theorem pick_tells {b : List Int} (hb : Bytes b) (hl : b.length ≤ 2000) {p n : Int} (hp : 0 ≤ p) (hp2 : p < 1000000) (hn : n < 1073741824) {k : Nat} (hk : 1 ≤ k) :
    ∃ v, spec_l6Rd_pick.f k b p n = some (v, p + 1) ∧ 0 ≤ v ∧ (v < n ∨ n < 1 ∧ v = 0) := by
  obtain ⟨k, rfl⟩ : ∃ m, k = m + 1 := ⟨k - 1, by omega⟩
  unfold spec_l6Rd_pick.f
  rw [w64 (x := p + 1) (by omega) (by omega)]
  by_cases h1 : n < 1
  · rw [if_pos h1]
    exact ⟨0, by simp [spec_l6Rd_pick.j0], by omega, .inr ⟨h1, rfl⟩⟩
  rw [if_neg h1]
  by_cases h2 : (b.length : Int) = 0
  · exact ⟨0, by simp [spec_l6Rd_pick.j0, h2], by omega, .inl (by omega)⟩
  have h2b : ((b.length : Int) == 0) = false := by simpa using h2
  rw [h2b]
  simp only [spec_l6Rd_pick.j0]
  rw [if_neg (by decide), Int.add_sub_cancel, w64 (x := p) (by omega) (by omega)]
  have hn0 : ¬ n = 0 := by omega
  by_cases h3 : p < (b.length : Int)
  · rw [if_pos h3, if_pos hp, if_neg hn0]
    have hr := hb.at_ p
    rw [w64 (by omega) (by omega)]
    have := tmod_bd hr.1 (show 0 < n by omega)
    exact ⟨_, rfl, this.1, .inl this.2⟩
  · rw [if_neg h3, if_neg h2]
    have t1 := tmod_bd hp (show 0 < (b.length : Int) by omega)
    have e1 : wrap64 (wrap64 (p * 7) + 3) = p * 7 + 3 := by rw [w64 (x := p * 7) (by omega) (by omega)]; exact w64 (by omega) (by omega)
    have t2 := tmod_bd (show 0 ≤ p * 7 + 3 by omega) (show 0 < (b.length : Int) by omega)
    have r1 := hb.at_ (Int.tmod p (b.length : Int))
    have r2 := hb.at_ (Int.tmod (p * 7 + 3) (b.length : Int))
    have q := Int.tdiv_nonneg hp (show 0 ≤ (b.length : Int) by omega)
    have q2 : Int.tdiv p (b.length : Int) ≤ p := by
      rw [Int.tdiv_eq_ediv_of_nonneg hp]
      exact Int.ediv_le_self _ hp
    rw [if_pos t1.1, if_pos t1.2, e1, if_pos t2.1, if_pos t2.2, if_neg hn0]
    generalize rd b (Int.tmod p (b.length : Int)) = u at r1 ⊢
    generalize rd b (Int.tmod (p * 7 + 3) (b.length : Int)) = v at r2 ⊢
    generalize Int.tdiv p (b.length : Int) = c at q q2 ⊢
    have e2 : wrap64 (wrap64 (wrap64 (wrap64 (wrap64 u * 131) + wrap64 (wrap64 v * 1117)) + wrap64 (p * 29)) + wrap64 (wrap64 c * 53)) = u * 131 + v * 1117 + p * 29 + c * 53 := by
      rw [w64 (x := u) (by omega) (by omega), w64 (x := v) (by omega) (by omega), w64 (x := c) (by omega) (by omega), w64 (x := u * 131) (by omega) (by omega), w64 (x := v * 1117) (by omega) (by omega), w64 (x := p * 29) (by omega) (by omega),
        w64 (x := c * 53) (by omega) (by omega), w64 (x := u * 131 + v * 1117) (by omega) (by omega), w64 (x := u * 131 + v * 1117 + p * 29) (by omega) (by omega)]
      exact w64 (by omega) (by omega)
    rw [e2]
    generalize hx : u * 131 + v * 1117 + p * 29 + c * 53 = x
    have hx0 : 0 ≤ x := by omega
    have hx1 : x < 1000000000 := by omega
    have e3 : wrap64 (Int.tdiv x 64) = x / 64 := by rw [Int.tdiv_eq_ediv_of_nonneg hx0]; exact w64 (by omega) (by omega)
    rw [e3]
    have hb3 := bits_xor hx0 (by omega) (show 0 ≤ x / 64 by omega) (by omega)
    have := tmod_bd hb3.1 (show 0 < n by omega)
    exact ⟨_, rfl, this.1, .inl this.2⟩
/-- A number at most so far from 0, or a little below it. -/
theorem big_j1 {b : List Int} (hb : Bytes b) (hl : b.length ≤ 2000) {p m x : Int} (hp : 0 ≤ p) (hp2 : p < 999990) (hm : 3 ≤ m) (hm2 : m ≤ 1152921504606846976) (hx : -3 ≤ x) (hx2 : x ≤ 1152921504606846976) {k : Nat} (hk : 3 ≤ k) :
    ∃ v p', spec_l71Big.j1 k m x b p = some (v, p') ∧ -m ≤ v ∧ v ≤ m ∧ p ≤ p' ∧ p' ≤ p + 1 := by
  obtain ⟨k, rfl⟩ : ∃ m, k = m + 1 := ⟨k - 1, by omega⟩
  simp only [spec_l71Big.j1]
  by_cases h : x < 0
  · rw [if_pos h]; exact ⟨_, _, rfl, by omega, by omega, by omega, by omega⟩
  rw [if_neg h, w64 (x := m + 1) (by omega) (by omega), if_neg (by omega)]
  obtain ⟨v, h1, h2, h3⟩ := pick_tells hb hl hp (show p < 1000000 by omega) (show (2 : Int) < 1073741824 by omega) (k := k) (by omega)
  rw [h1]; simp only [Option.bind_some]
  have t := tmod_bd (show 0 ≤ x by omega) (show 0 < m + 1 by omega)
  rw [w64 (x := -(Int.tmod x (m + 1))) (by omega) (by omega)]
  split
  · exact ⟨_, _, rfl, by omega, by omega, by omega, by omega⟩
  · exact ⟨_, _, rfl, by omega, by omega, by omega, by omega⟩
theorem big_l0 {b : List Int} (hb : Bytes b) (hl : b.length ≤ 2000) {m : Int} (hm : 3 ≤ m) (hm2 : m ≤ 1152921504606846976) (d : Nat) : ∀ (k : Nat) (p i n : Int), 0 ≤ p → p + d < 999985 → 0 ≤ i → 4 - i = d → 0 ≤ n →
    (i = 0 → n = 0) → (i = 1 → n < 32768) → (i = 2 → n < 1073741824) → (i = 3 → n < 35184372088832) → (i = 4 → n < 1152921504606846976) → d + 5 < k →
    ∃ v p', spec_l71Big.l0 k m n i b p = some (v, p') ∧ -m ≤ v ∧ v ≤ m ∧ p ≤ p' ∧ p' ≤ p + d + 1 := by
  induction d with
  | zero =>
    intro k p i n hp hp2 hi hd hn h0 h1 h2 h3 h4 hk
    obtain ⟨k, rfl⟩ : ∃ m, k = m + 1 := ⟨k - 1, by omega⟩
    simp only [spec_l71Big.l0]
    rw [if_neg (by omega)]
    obtain ⟨v, p', a, b1, c, d1, e⟩ := big_j1 hb hl hp (show p < 999990 by omega) hm hm2 (show -3 ≤ n by omega) (show n ≤ _ by have := h4 (by omega); omega) (k := k) (by omega)
    exact ⟨v, p', a, b1, c, d1, by omega⟩
  | succ d ih =>
    intro k p i n hp hp2 hi hd hn h0 h1 h2 h3 h4 hk
    obtain ⟨k, rfl⟩ : ∃ m, k = m + 1 := ⟨k - 1, by omega⟩
    simp only [spec_l71Big.l0]
    rw [if_pos (by omega)]
    obtain ⟨v, q1, q2, q3⟩ := pick_tells hb hl hp (show p < 1000000 by omega) (show (32768 : Int) < 1073741824 by omega) (k := k) (by omega)
    rw [q1]; simp only [Option.bind_some]
    have hn2 : n < 35184372088832 := by
      rcases (show i = 0 ∨ i = 1 ∨ i = 2 ∨ i = 3 by omega) with e | e | e | e
      · have := h0 e; omega
      · have := h1 e; omega
      · have := h2 e; omega
      · exact h3 e
    have e : wrap64 (wrap64 (n * 32768) + v) = n * 32768 + v := by rw [w64 (x := n * 32768) (by omega) (by omega)]; exact w64 (by omega) (by omega)
    rw [e, w64 (x := i + 1) (by omega) (by omega)]
    obtain ⟨v', p', a, b1, c, d1, e⟩ := ih k (p + 1) (i + 1) (n * 32768 + v) (by omega) (by omega) (by omega) (by omega) (by omega) (by omega)
      (fun z => by have := h0 (by omega); omega) (fun z => by have := h1 (by omega); omega) (fun z => by have := h2 (by omega); omega) (fun z => by have := h3 (by omega); omega) (by omega)
    exact ⟨v', p', a, b1, c, by omega, by omega⟩
theorem big_tells {b : List Int} (hb : Bytes b) (hl : b.length ≤ 2000) {p m : Int} (hp : 0 ≤ p) (hp2 : p < 999970) (hm : 3 ≤ m) (hm2 : m ≤ 1152921504606846976) {k : Nat} (hk : 15 ≤ k) :
    ∃ v p', spec_l71Big.f k b p m = some (v, p') ∧ -m ≤ v ∧ v ≤ m ∧ p ≤ p' ∧ p' ≤ p + 8 := by
  unfold spec_l71Big.f
  obtain ⟨v, q1, q2, q3⟩ := pick_tells hb hl hp (show p < 1000000 by omega) (show (6 : Int) < 1073741824 by omega) (k := k) (by omega)
  rw [q1]; simp only [Option.bind_some]
  by_cases c0 : v = 0
  · rw [if_pos c0]
    obtain ⟨u, r1, r2, r3⟩ := pick_tells hb hl (show 0 ≤ p + 1 by omega) (show p + 1 < 1000000 by omega) (show (7 : Int) < 1073741824 by omega) (k := k) (by omega)
    rw [r1]; simp only [Option.bind_some]
    rw [w64 (x := u - 3) (by omega) (by omega)]
    obtain ⟨v, p', a, b1, c, d1, e⟩ := big_j1 hb hl (show 0 ≤ p + 1 + 1 by omega) (show p + 1 + 1 < 999990 by omega) hm hm2 (show -3 ≤ u - 3 by omega) (by omega) (k := k) (by omega)
    exact ⟨v, p', a, b1, c, by omega, by omega⟩
  rw [if_neg c0]
  by_cases c1 : v = 1
  · rw [if_pos c1]
    obtain ⟨u, r1, r2, r3⟩ := pick_tells hb hl (show 0 ≤ p + 1 by omega) (show p + 1 < 1000000 by omega) (show (3 : Int) < 1073741824 by omega) (k := k) (by omega)
    rw [r1]; simp only [Option.bind_some]
    rw [w64 (x := m - u) (by omega) (by omega)]
    obtain ⟨v, p', a, b1, c, d1, e⟩ := big_j1 hb hl (show 0 ≤ p + 1 + 1 by omega) (show p + 1 + 1 < 999990 by omega) hm hm2 (show -3 ≤ m - u by omega) (by omega) (k := k) (by omega)
    exact ⟨v, p', a, b1, c, by omega, by omega⟩
  rw [if_neg c1]
  by_cases c2 : v = 2
  · rw [if_pos c2]
    obtain ⟨u, r1, r2, r3⟩ := pick_tells hb hl (show 0 ≤ p + 1 by omega) (show p + 1 < 1000000 by omega) (show (1048576 : Int) < 1073741824 by omega) (k := k) (by omega)
    rw [r1]; simp only [Option.bind_some]
    obtain ⟨v, p', a, b1, c, d1, e⟩ := big_j1 hb hl (show 0 ≤ p + 1 + 1 by omega) (show p + 1 + 1 < 999990 by omega) hm hm2 (show -3 ≤ u by omega) (by omega) (k := k) (by omega)
    exact ⟨v, p', a, b1, c, by omega, by omega⟩
  rw [if_neg c2]
  obtain ⟨v, p', a, b1, c, d1, e⟩ := big_l0 hb hl hm hm2 4 k (p + 1) 0 0 (by omega) (by omega) (by omega) (by omega) (by omega) (by omega) (by omega) (by omega) (by omega) (by omega) (by omega)
  exact ⟨v, p', a, b1, c, by omega, by omega⟩
theorem open_tells {l : List Int} (hl : Bytes l) : ∃ b, spec_l6Open.f l = some (b, 0) ∧ Bytes b ∧ b.length ≤ 2000 := by
  unfold spec_l6Open.f
  by_cases h : (l.length : Int) > 2000
  · rw [if_pos h, if_pos (by omega)]
    exact ⟨_, rfl, fun x hx => hl x (List.mem_of_mem_take hx), by simp; omega⟩
  · rw [if_neg h]
    exact ⟨_, rfl, hl, by omega⟩
theorem tdiv6_bd {x A : Int} (h1 : -A ≤ x) (h2 : x ≤ A) : -A ≤ Int.tdiv x 6 ∧ Int.tdiv x 6 ≤ A := by
  rcases Int.le_total 0 x with h | h
  · rw [Int.tdiv_eq_ediv_of_nonneg h]; omega
  · obtain ⟨c, rfl⟩ : ∃ c, x = -c := ⟨-x, by omega⟩
    rw [Int.neg_tdiv, Int.tdiv_eq_ediv_of_nonneg (show 0 ≤ c by omega)]; omega
theorem ang_tells {b : List Int} (hb : Bytes b) (hl : b.length ≤ 2000) {p : Int} (hp : 0 ≤ p) (hp2 : p < 999800) {k : Nat} (hk : 20 ≤ k) :
    ∃ v p', spec_l71Ang.f k b p = some (v, p') ∧ -1000000000 ≤ v ∧ v ≤ 1000000000 ∧ p ≤ p' ∧ p' ≤ p + 9 := by
  unfold spec_l71Ang.f
  obtain ⟨v, q1, q2, q3⟩ := pick_tells hb hl hp (show p < 1000000 by omega) (show (6 : Int) < 1073741824 by omega) (k := k) (by omega)
  rw [q1]; simp only [Option.bind_some]
  by_cases c0 : v = 0
  · rw [if_pos c0]
    obtain ⟨u, r1, r2, r3⟩ := pick_tells hb hl (show 0 ≤ p + 1 by omega) (by omega) (show (49 : Int) < 1073741824 by omega) (k := k) (by omega)
    rw [r1]; simp only [Option.bind_some]
    rw [w64 (x := u - 24) (by omega) (by omega), w64 (x := (u - 24) * 32400000) (by omega) (by omega)]
    have t := tdiv6_bd (x := (u - 24) * 32400000) (A := 810000000) (by omega) (by omega)
    rw [w64 (by omega) (by omega)]
    exact ⟨_, _, rfl, by omega, by omega, by omega, by omega⟩
  rw [if_neg c0]
  by_cases c1 : v = 1
  · rw [if_pos c1]
    obtain ⟨u, r1, r2, r3⟩ := pick_tells hb hl (show 0 ≤ p + 1 by omega) (by omega) (show (721 : Int) < 1073741824 by omega) (k := k) (by omega)
    rw [r1]; simp only [Option.bind_some]
    rw [w64 (x := u - 360) (by omega) (by omega), w64 (x := (u - 360) * 360000) (by omega) (by omega)]
    exact ⟨_, _, rfl, by omega, by omega, by omega, by omega⟩
  rw [if_neg c1]
  by_cases c2 : v = 2
  · rw [if_pos c2]
    obtain ⟨u, r1, r2, r3⟩ := pick_tells hb hl (show 0 ≤ p + 1 by omega) (by omega) (show (13 : Int) < 1073741824 by omega) (k := k) (by omega)
    rw [r1]; simp only [Option.bind_some]
    obtain ⟨x, s1, s2, s3⟩ := pick_tells hb hl (show 0 ≤ p + 1 + 1 by omega) (by omega) (show (5 : Int) < 1073741824 by omega) (k := k) (by omega)
    rw [s1]; simp only [Option.bind_some]
    rw [w64 (x := u - 6) (by omega) (by omega), w64 (x := (u - 6) * 32400000) (by omega) (by omega), w64 (x := (u - 6) * 32400000 + x) (by omega) (by omega), w64 (by omega) (by omega)]
    exact ⟨_, _, rfl, by omega, by omega, by omega, by omega⟩
  rw [if_neg c2]
  obtain ⟨u, p', r1, r2, r3, r4, r5⟩ := big_tells hb hl (show 0 ≤ p + 1 by omega) (by omega) (show (3 : Int) ≤ 129600000 by omega) (by omega) (k := k) (by omega)
  rw [r1]; simp only [Option.bind_some]
  exact ⟨_, _, rfl, by omega, by omega, by omega, by omega⟩
theorem wide_tells {b : List Int} (hb : Bytes b) (hl : b.length ≤ 2000) {p : Int} (hp : 0 ≤ p) (hp2 : p < 999700) {k : Nat} (hk : 20 ≤ k) :
    ∃ v p', spec_l71Wide.f k b p = some (v, p') ∧ -1000000000001 ≤ v ∧ v ≤ 1000000000001 := by
  unfold spec_l71Wide.f
  obtain ⟨v, q1, q2, q3⟩ := pick_tells hb hl hp (show p < 1000000 by omega) (show (16 : Int) < 1073741824 by omega) (k := k) (by omega)
  rw [q1]; simp only [Option.bind_some]
  by_cases c0 : v = 0
  · rw [if_pos c0]
    obtain ⟨u, p', r1, r2, r3, r4, r5⟩ := big_tells hb hl (show 0 ≤ p + 1 by omega) (by omega) (show (3 : Int) ≤ 1000000000000 by omega) (by omega) (k := k) (by omega)
    rw [r1]; simp only [Option.bind_some]
    exact ⟨_, _, rfl, by omega, by omega⟩
  rw [if_neg c0]
  by_cases c1 : v = 1
  · rw [if_pos c1]
    obtain ⟨u, r1, r2, r3⟩ := pick_tells hb hl (show 0 ≤ p + 1 by omega) (by omega) (show (3 : Int) < 1073741824 by omega) (k := k) (by omega)
    rw [r1]; simp only [Option.bind_some]
    rw [if_pos r2, if_pos (by simp; omega)]
    have hu : u = 0 ∨ u = 1 ∨ u = 2 := by omega
    refine ⟨_, _, rfl, ?_, ?_⟩ <;> (rcases hu with h | h | h <;> subst h <;> decide)
  rw [if_neg c1]
  obtain ⟨u, p', r1, r2, r3, r4, r5⟩ := ang_tells hb hl (show 0 ≤ p + 1 by omega) (by omega) (k := k) hk
  rw [r1]; simp only [Option.bind_some]
  exact ⟨_, _, rfl, by omega, by omega⟩
theorem drawTurnBy_tells {l : List Int} (hl : Bytes l) {k : Nat} (hk : 20 ≤ k) : ∃ u r a, spec_DrawTurnBy.f k l = some (u, r, a) ∧ -1000000000001 ≤ a ∧ a ≤ 1000000000001 := by
  unfold spec_DrawTurnBy.f
  obtain ⟨b, h1, h2, h3⟩ := open_tells hl
  rw [h1]; simp only [Option.bind_some]
  obtain ⟨u, p, q1, q2, q3, q4, q5⟩ := big_tells h2 h3 (show (0 : Int) ≤ 0 by omega) (by omega) (show (3 : Int) ≤ 500000000 by omega) (by omega) (k := k) (by omega)
  rw [q1]; simp only [Option.bind_some]
  obtain ⟨v, r1, r2⟩ := pick_tells h2 h3 (show 0 ≤ p by omega) (by omega) (show (20 : Int) < 1073741824 by omega) (k := k) (by omega)
  rw [r1]; simp only [Option.bind_some]
  obtain ⟨u', p', s1, s2, s3, s4, s5⟩ := big_tells h2 h3 (show 0 ≤ p + 1 by omega) (by omega) (show (3 : Int) ≤ 500000000 by omega) (by omega) (k := k) (by omega)
  rw [s1]; simp only [Option.bind_some]
  obtain ⟨a, p2, t1, t2, t3⟩ := wide_tells h2 h3 (show 0 ≤ p' by omega) (by omega) (k := k) hk
  rw [t1]; simp only [Option.bind_some]
  split <;> exact ⟨_, _, _, rfl, t2, t3⟩
section
variable (k : Nat) (A0 : Option Addr) (c0 : Nat) (l0 : List Int) (w : World)
set_option maxHeartbeats 1000000 in
set_option maxRecDepth 100000 in
theorem FnTurnWhole_big (h0 : (l0.length : Int) > 1048576) :
    Calls Try.prog 8 #[.slice A0 l0.length c0] w fun e w' => e = .returned (.bool true) ∧ Below w.heap.size w w' := by
  have d0 : decide (1048576 < (l0.length : Int)) = true := decide_eq_true h0
  have d1 : decide (1048576 < l0.length) = true := decide_eq_true (by omega)
  clear h0
  go_enter Try.func8, Try.ntmps8
  go_wp2
  go_ret
  exact ⟨rfl, Below.refl _ _⟩
set_option maxHeartbeats 2000000 in
set_option maxRecDepth 100000 in
theorem FnTurnWhole_bad (hr0 : Kd.C (Kd.int .u8) w A0 l0.length l0) (hc0 : l0.length ≤ c0) (h0 : ¬ (l0.length : Int) > 1048576)
    (u r a : Int)
    (q0 : spec_DrawTurnBy.f k l0 = some (u, r, a))
    (q1 : spec_TurnBy.f k u r a = some (0, 0, 0, 0, false))
    (q2 : impl_TurnBy.f k u r a = some (0, 0, 0, 0, false)) :
    Calls Try.prog 8 #[.slice A0 l0.length c0] w fun e w' => e = .returned (.bool true) ∧ Below w.heap.size w w' := by
  have hu_Span := Try.underlying23
  have HR0 := Aside0.mk hr0
  have HC0 := Aside0.mk hc0
  have Q0 := Aside0.mk q0
  have Q1 := Aside0.mk q1
  have Q2 := Aside0.mk q2
  clear hr0 hc0 q0 q1 q2
  have c0b0 : decide (1048576 < (l0.length : Int)) = false := decide_eq_false h0
  have c0b1 : decide (1048576 < l0.length) = false := decide_eq_false (by omega)
  clear h0
  have HB := Bl.refl w
  go_enter Try.func8, Try.ntmps8
  go_wp2_with (first
    | (go_at_call 26; (with_reducible refine (spec_DrawTurnBy.calls k _ _ l0 u r a _ HR0.out HC0.out Q0.out).mono ?_); rintro e w1 ⟨rfl, hb1⟩; replace HB := Bl.call hb1 HB)
    | (go_at_call 15; (with_reducible refine (spec_TurnBy.calls k u r a 0 0 0 0 false _ Q1.out).mono ?_); rintro e w2 ⟨rfl, hb2⟩; replace HB := Bl.call hb2 HB)
    | (go_at_call 16; (with_reducible refine (impl_TurnBy.calls k u r a 0 0 0 0 false _ Q2.out).mono ?_); rintro e w3 ⟨rfl, hb3⟩; replace HB := Bl.call hb3 ((HB.alloc _).alloc _); obtain ⟨hc3, hf3⟩ := bcell hb3; have hx2_3 : w2.heap.size + 1 < w3.heap.size := (by have := hb3.size; simp at this; omega); have hz2_3 : w2.heap.size < w3.heap.size := (by omega)))
  go_ret
  exact ⟨rfl, ((HB.alloc _).alloc _).out⟩
set_option maxHeartbeats 2000000 in
set_option maxRecDepth 100000 in
theorem FnTurnWhole_ok (hr0 : Kd.C (Kd.int .u8) w A0 l0.length l0) (hc0 : l0.length ≤ c0) (h0 : ¬ (l0.length : Int) > 1048576)
    (u r a y1 y2 x1 x2 : Int)
    (q0 : spec_DrawTurnBy.f k l0 = some (u, r, a))
    (q1 : spec_TurnBy.f k u r a = some (y1, y2, x1, x2, true))
    (q2 : impl_TurnBy.f k u r a = some (y1, y2, x1, x2, true))
    (q3 : impl_TurnBy.f k u r 0 = some (u, u, r, r, true))
    (q4 : impl_TurnBy.f k u r 32400000 = some (r, r, (wrap64 (-u)), (wrap64 (-u)), true)) :
    Calls Try.prog 8 #[.slice A0 l0.length c0] w fun e w' => e = .returned (.bool true) ∧ Below w.heap.size w w' := by
  have hu_Span := Try.underlying23
  have HR0 := Aside0.mk hr0
  have HC0 := Aside0.mk hc0
  have Q0 := Aside0.mk q0
  have Q1 := Aside0.mk q1
  have Q2 := Aside0.mk q2
  have Q3 := Aside0.mk q3
  have Q4 := Aside0.mk q4
  clear hr0 hc0 q0 q1 q2 q3 q4
  have c0b0 : decide (1048576 < (l0.length : Int)) = false := decide_eq_false h0
  have c0b1 : decide (1048576 < l0.length) = false := decide_eq_false (by omega)
  clear h0
  have HB := Bl.refl w
  go_enter Try.func8, Try.ntmps8
  go_wp2_with (first
    | (go_at_call 26; (with_reducible refine (spec_DrawTurnBy.calls k _ _ l0 u r a _ HR0.out HC0.out Q0.out).mono ?_); rintro e w1 ⟨rfl, hb1⟩; replace HB := Bl.call hb1 HB)
    | (go_at_call 15; (with_reducible refine (spec_TurnBy.calls k u r a y1 y2 x1 x2 true _ Q1.out).mono ?_); rintro e w2 ⟨rfl, hb2⟩; replace HB := Bl.call hb2 HB)
    | (go_at_call 16; (with_reducible refine (impl_TurnBy.calls k u r a y1 y2 x1 x2 true _ Q2.out).mono ?_); rintro e w3 ⟨rfl, hb3⟩; replace HB := Bl.call hb3 ((HB.alloc _).alloc _); obtain ⟨hc3, hf3⟩ := bcell hb3; have hx2_3 : w2.heap.size + 1 < w3.heap.size := (by have := hb3.size; simp at this; omega); have hz2_3 : w2.heap.size < w3.heap.size := (by omega))
    | (go_at_call 16; (with_reducible refine (impl_TurnBy.calls k u r 0 u u r r true _ Q3.out).mono ?_); rintro e w4 ⟨rfl, hb4⟩; replace HB := Bl.call hb4 ((HB.alloc _).alloc _); obtain ⟨hc4, hf4⟩ := bcell hb4; have hx3_4 : w3.heap.size + 1 < w4.heap.size := (by have := hb4.size; simp at this; omega); have hz3_4 : w3.heap.size < w4.heap.size := (by omega); have hx2_4 : w2.heap.size + 1 < w4.heap.size := (by omega); have hz2_4 : w2.heap.size < w4.heap.size := (by omega))
    | (go_at_call 16; (with_reducible refine (impl_TurnBy.calls k u r 32400000 r r (wrap64 (-u)) (wrap64 (-u)) true _ Q4.out).mono ?_); rintro e w5 ⟨rfl, hb5⟩; replace HB := Bl.call hb5 ((HB.alloc _).alloc _); obtain ⟨hc5, hf5⟩ := bcell hb5; have hx4_5 : w4.heap.size + 1 < w5.heap.size := (by have := hb5.size; simp at this; omega); have hz4_5 : w4.heap.size < w5.heap.size := (by omega); have hx2_5 : w2.heap.size + 1 < w5.heap.size := (by omega); have hz2_5 : w2.heap.size < w5.heap.size := (by omega); have hx3_5 : w3.heap.size + 1 < w5.heap.size := (by omega); have hz3_5 : w3.heap.size < w5.heap.size := (by omega)))
  go_ret
  exact ⟨rfl, ((HB.alloc _).alloc _).out⟩
end
theorem FnTurnWhole_true (A0 : Option Addr) (c0 : Nat) (l0 : List Int) (w : World) (hr0 : Kd.C (Kd.int .u8) w A0 l0.length l0) (hc0 : l0.length ≤ c0) (hw0 : ∀ x ∈ l0, (Lit.int .u8 x).wf = true) :
    Calls Try.prog 8 #[.slice A0 l0.length c0] w fun e w' => e = .returned (.bool true) ∧ Below w.heap.size w w' := by
  by_cases h : (l0.length : Int) > 1048576
  · exact FnTurnWhole_big A0 c0 l0 w h
  obtain ⟨u, r, a, hd, ha1, ha2⟩ := drawTurnBy_tells (bytes_of hw0) (k := 300) (by omega)
  obtain ⟨i1, i2⟩ := TurnBy_is (u := u) (r := r) (a := a) (k := 300) (by omega)
  by_cases hin : turnOk u r a
  · rw [if_pos hin] at i1 i2
    obtain ⟨g1, g2, g3, g4, g5, g6⟩ := hin
    obtain ⟨t1, t2, t3, t4⟩ := turn_whole u r
    have j1 := (TurnBy_is (u := u) (r := r) (a := 0) (k := 300) (by omega)).1
    have j2 := (TurnBy_is (u := u) (r := r) (a := 32400000) (k := 300) (by omega)).1
    rw [if_pos ⟨g1, g2, g3, g4, by omega, by omega⟩, t1, t2] at j1
    rw [if_pos ⟨g1, g2, g3, g4, by omega, by omega⟩, t3, t4] at j2
    exact FnTurnWhole_ok 300 A0 c0 l0 w hr0 hc0 h u r a _ _ _ _ hd i2 i1 j1 (by rw [w64 (x := -u) (by omega) (by omega)]; exact j2)
  · rw [if_neg hin] at i1 i2
    exact FnTurnWhole_bad 300 A0 c0 l0 w hr0 hc0 h u r a hd i2 i1

end Go.Proofs.Ytcdgplkmahabiaa.M

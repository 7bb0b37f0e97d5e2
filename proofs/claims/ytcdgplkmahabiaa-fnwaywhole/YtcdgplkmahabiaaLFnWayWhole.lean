import Derived.Test.YtcdgplkmahabiaaP5
import Derived.Test.YtcdgplkmahabiaaDb
namespace Go.Proofs.Ytcdgplkmahabiaa.M
open Go.RowKit Go.Proofs.YtcdgplkmahabiaaW.PrintWords Go.Proofs.YtcdgplkmahabiaaW.PrintLast Go.Proofs.YtcdgplkmahabiaaW.PrintMore
attribute [local go_sem] max2_int min2_int max_two min_two max_three min_three max_four min_four
attribute [local go_sem high] eqA23 eqA30
attribute [local go_sem] fld23_0 fld23_1 fld30_0 fld30_1 fld55_0 fld55_1 fld55_2 fld55_3 fld55_4
set_option linter.unusedVariables false
set_option linter.unusedSimpArgs false
/-- A list of bytes. -/
def Bytes (l : List Int) : Prop := ∀ x ∈ l, 0 ≤ x ∧ x < 256
theorem bytes_of {l : List Int} (h : ∀ x ∈ l, (Lit.int .u8 x).wf = true) : Bytes l := by
  intro x hx
  have := h x hx
  simp [Lit.wf, IntKind.min, IntKind.max, IntKind.bits, IntKind.signed] at this
  omega
theorem Bytes.at_ {l : List Int} (h : Bytes l) (i : Int) : 0 ≤ rd l i ∧ rd l i < 256 := by
  unfold rd
  rw [List.getD_eq_getElem?_getD]
  rcases Nat.lt_or_ge i.toNat l.length with h1 | h1
  · rw [List.getElem?_eq_getElem h1]
    exact h _ (List.getElem_mem h1)
  · rw [List.getElem?_eq_none h1]; simp
theorem bits_xor {a b : Int} (ha : 0 ≤ a) (ha2 : a < 1099511627776) (hb : 0 ≤ b) (hb2 : b < 1099511627776) : 0 ≤ Go.bits .xor .i64 a b ∧ Go.bits .xor .i64 a b < 1099511627776 := by
  obtain ⟨a, rfl⟩ := Int.eq_ofNat_of_zero_le ha
  obtain ⟨b, rfl⟩ := Int.eq_ofNat_of_zero_le hb
  have h := Nat.xor_lt_two_pow (n := 40) (x := a) (y := b) (by omega) (by omega)
  have ea : a % 2 ^ 64 = a := Nat.mod_eq_of_lt (by omega)
  have eb : b % 2 ^ 64 = b := Nat.mod_eq_of_lt (by omega)
  have e : Go.bits .xor .i64 (a : Int) (b : Int) = ((a ^^^ b : Nat) : Int) := by
    show IntKind.i64.wrap ((BitVec.ofInt 64 (a : Int) ^^^ BitVec.ofInt 64 (b : Int)).toNat : Nat) = _
    rw [BitVec.ofInt_natCast, BitVec.ofInt_natCast, BitVec.toNat_xor, BitVec.toNat_ofNat, BitVec.toNat_ofNat, ea, eb, IntKind.wrap_i64]
    omega
  rw [e]
  omega
theorem tmod_bd {a n : Int} (ha : 0 ≤ a) (hn : 0 < n) : 0 ≤ Int.tmod a n ∧ Int.tmod a n < n :=
  ⟨Int.tmod_nonneg _ ha, Int.tmod_lt_of_pos _ hn⟩
theorem pick_tells {b : List Int} (hb : Bytes b) (hl : b.length ≤ 2000) {p n : Int} (hp : 0 ≤ p) (hp2 : p < 1000000) (hn : n < 1073741824) {k : Nat} (hk : 1 ≤ k) :
    ∃ v, spec_l6Rd_pick.f k b p n = some (v, p + 1) ∧ 0 ≤ v ∧ (v < n ∨ n < 1 ∧ v = 0) := by
  obtain ⟨k, rfl⟩ : ∃ m, k = m + 1 := ⟨k - 1, by omega⟩
  unfold spec_l6Rd_pick.f
  rw [w64 (x := p + 1) (by omega) (by omega)]
  by_cases h1 : n < 1
  · rw [if_pos h1]
    exact ⟨0, by simp [spec_l6Rd_pick.j0], by omega, .inr ⟨h1, rfl⟩⟩
  rw [if_neg h1]
  by_cases h2 : (b.length : Int) = 0
  · exact ⟨0, by simp [spec_l6Rd_pick.j0, h2], by omega, .inl (by omega)⟩
  have h2b : ((b.length : Int) == 0) = false := by simpa using h2
  rw [h2b]
  simp only [spec_l6Rd_pick.j0]
  rw [if_neg (by decide), Int.add_sub_cancel, w64 (x := p) (by omega) (by omega)]
  have hn0 : ¬ n = 0 := by omega
  by_cases h3 : p < (b.length : Int)
  · rw [if_pos h3, if_pos hp, if_neg hn0]
    have hr := hb.at_ p
    rw [w64 (by omega) (by omega)]
    have := tmod_bd hr.1 (show 0 < n by omega)
    exact ⟨_, rfl, this.1, .inl this.2⟩
  · rw [if_neg h3, if_neg h2]
    have t1 := tmod_bd hp (show 0 < (b.length : Int) by omega)
    have e1 : wrap64 (wrap64 (p * 7) + 3) = p * 7 + 3 := by rw [w64 (x := p * 7) (by omega) (by omega)]; exact w64 (by omega) (by omega)
    have t2 := tmod_bd (show 0 ≤ p * 7 + 3 by omega) (show 0 < (b.length : Int) by omega)
    have r1 := hb.at_ (Int.tmod p (b.length : Int))
    have r2 := hb.at_ (Int.tmod (p * 7 + 3) (b.length : Int))
    have q := Int.tdiv_nonneg hp (show 0 ≤ (b.length : Int) by omega)
    have q2 : Int.tdiv p (b.length : Int) ≤ p := by
      rw [Int.tdiv_eq_ediv_of_nonneg hp]
      exact Int.ediv_le_self _ hp
    rw [if_pos t1.1, if_pos t1.2, e1, if_pos t2.1, if_pos t2.2, if_neg hn0]
    generalize rd b (Int.tmod p (b.length : Int)) = u at r1 ⊢
    generalize rd b (Int.tmod (p * 7 + 3) (b.length : Int)) = v at r2 ⊢
    generalize Int.tdiv p (b.length : Int) = c at q q2 ⊢
    have e2 : wrap64 (wrap64 (wrap64 (wrap64 (wrap64 u * 131) + wrap64 (wrap64 v * 1117)) + wrap64 (p * 29)) + wrap64 (wrap64 c * 53)) = u * 131 + v * 1117 + p * 29 + c * 53 := by
      rw [w64 (x := u) (by omega) (by omega), w64 (x := v) (by omega) (by omega), w64 (x := c) (by omega) (by omega), w64 (x := u * 131) (by omega) (by omega), w64 (x := v * 1117) (by omega) (by omega), w64 (x := p * 29) (by omega) (by omega),
        w64 (x := c * 53) (by omega) (by omega), w64 (x := u * 131 + v * 1117) (by omega) (by omega), w64 (x := u * 131 + v * 1117 + p * 29) (by omega) (by omega)]
      exact w64 (by omega) (by omega)
    rw [e2]
    generalize hx : u * 131 + v * 1117 + p * 29 + c * 53 = x
    have hx0 : 0 ≤ x := by omega
    have hx1 : x < 1000000000 := by omega
    have e3 : wrap64 (Int.tdiv x 64) = x / 64 := by rw [Int.tdiv_eq_ediv_of_nonneg hx0]; exact w64 (by omega) (by omega)
    rw [e3]
    have hb3 := bits_xor hx0 (by omega) (show 0 ≤ x / 64 by omega) (by omega)
    have := tmod_bd hb3.1 (show 0 < n by omega)
    exact ⟨_, rfl, this.1, .inl this.2⟩
/-- A number at most so far from 0, or a little below it. -/
theorem big_j1 {b : List Int} (hb : Bytes b) (hl : b.length ≤ 2000) {p m x : Int} (hp : 0 ≤ p) (hp2 : p < 999990) (hm : 3 ≤ m) (hm2 : m ≤ 1152921504606846976) (hx : -3 ≤ x) (hx2 : x ≤ 1152921504606846976) {k : Nat} (hk : 3 ≤ k) :
    ∃ v p', spec_l71Big.j1 k m x b p = some (v, p') ∧ -m ≤ v ∧ v ≤ m ∧ p ≤ p' ∧ p' ≤ p + 1 := by
  obtain ⟨k, rfl⟩ : ∃ m, k = m + 1 := ⟨k - 1, by omega⟩
  simp only [spec_l71Big.j1]
  by_cases h : x < 0
  · rw [if_pos h]; exact ⟨_, _, rfl, by omega, by omega, by omega, by omega⟩
  rw [if_neg h, w64 (x := m + 1) (by omega) (by omega), if_neg (by omega)]
  obtain ⟨v, h1, h2, h3⟩ := pick_tells hb hl hp (show p < 1000000 by omega) (show (2 : Int) < 1073741824 by omega) (k := k) (by omega)
  rw [h1]; simp only [Option.bind_some]
  have t := tmod_bd (show 0 ≤ x by omega) (show 0 < m + 1 by omega)
  rw [w64 (x := -(Int.tmod x (m + 1))) (by omega) (by omega)]
  split
  · exact ⟨_, _, rfl, by omega, by omega, by omega, by omega⟩
  · exact ⟨_, _, rfl, by omega, by omega, by omega, by omega⟩
theorem big_l0 {b : List Int} (hb : Bytes b) (hl : b.length ≤ 2000) {m : Int} (hm : 3 ≤ m) (hm2 : m ≤ 1152921504606846976) (d : Nat) : ∀ (k : Nat) (p i n : Int), 0 ≤ p → p + d < 999985 → 0 ≤ i → 4 - i = d → 0 ≤ n →
    (i = 0 → n = 0) → (i = 1 → n < 32768) → (i = 2 → n < 1073741824) → (i = 3 → n < 35184372088832) → (i = 4 → n < 1152921504606846976) → d + 5 < k →
    ∃ v p', spec_l71Big.l0 k m n i b p = some (v, p') ∧ -m ≤ v ∧ v ≤ m ∧ p ≤ p' ∧ p' ≤ p + d + 1 := by
  induction d with
  | zero =>
    intro k p i n hp hp2 hi hd hn h0 h1 h2 h3 h4 hk
    obtain ⟨k, rfl⟩ : ∃ m, k = m + 1 := ⟨k - 1, by omega⟩
    simp only [spec_l71Big.l0]
    rw [if_neg (by omega)]
    obtain ⟨v, p', a, b1, c, d1, e⟩ := big_j1 hb hl hp (show p < 999990 by omega) hm hm2 (show -3 ≤ n by omega) (show n ≤ _ by have := h4 (by omega); omega) (k := k) (by omega)
    exact ⟨v, p', a, b1, c, d1, by omega⟩
  | succ d ih =>
    intro k p i n hp hp2 hi hd hn h0 h1 h2 h3 h4 hk
    obtain ⟨k, rfl⟩ : ∃ m, k = m + 1 := ⟨k - 1, by omega⟩
    simp only [spec_l71Big.l0]
    rw [if_pos (by omega)]
    obtain ⟨v, q1, q2, q3⟩ := pick_tells hb hl hp (show p < 1000000 by omega) (show (32768 : Int) < 1073741824 by omega) (k := k) (by omega)
    rw [q1]; simp only [Option.bind_some]
    have hn2 : n < 35184372088832 := by
      rcases (show i = 0 ∨ i = 1 ∨ i = 2 ∨ i = 3 by omega) with e | e | e | e
      · have := h0 e; omega
      · have := h1 e; omega
      · have := h2 e; omega
      · exact h3 e
    have e : wrap64 (wrap64 (n * 32768) + v) = n * 32768 + v := by rw [w64 (x := n * 32768) (by omega) (by omega)]; exact w64 (by omega) (by omega)
    rw [e, w64 (x := i + 1) (by omega) (by omega)]
    obtain ⟨v', p', a, b1, c, d1, e⟩ := ih k (p + 1) (i + 1) (n * 32768 + v) (by omega) (by omega) (by omega) (by omega) (by omega) (by omega)
      (fun z => by have := h0 (by omega); omega) (fun z => by have := h1 (by omega); omega) (fun z => by have := h2 (by omega); omega) (fun z => by have := h3 (by omega); omega) (by omega)
    exact ⟨v', p', a, b1, c, by omega, by omega⟩
theorem big_tells {b : List Int} (hb : Bytes b) (hl : b.length ≤ 2000) {p m : Int} (hp : 0 ≤ p) (hp2 : p < 999970) (hm : 3 ≤ m) (hm2 : m ≤ 1152921504606846976) {k : Nat} (hk : 15 ≤ k) :
    ∃ v p', spec_l71Big.f k b p m = some (v, p') ∧ -m ≤ v ∧ v ≤ m ∧ p ≤ p' ∧ p' ≤ p + 8 := by
  unfold spec_l71Big.f
  obtain ⟨v, q1, q2, q3⟩ := pick_tells hb hl hp (show p < 1000000 by omega) (show (6 : Int) < 1073741824 by omega) (k := k) (by omega)
  rw [q1]; simp only [Option.bind_some]
  by_cases c0 : v = 0
  · rw [if_pos c0]
    obtain ⟨u, r1, r2, r3⟩ := pick_tells hb hl (show 0 ≤ p + 1 by omega) (show p + 1 < 1000000 by omega) (show (7 : Int) < 1073741824 by omega) (k := k) (by omega)
    rw [r1]; simp only [Option.bind_some]
    rw [w64 (x := u - 3) (by omega) (by omega)]
    obtain ⟨v, p', a, b1, c, d1, e⟩ := big_j1 hb hl (show 0 ≤ p + 1 + 1 by omega) (show p + 1 + 1 < 999990 by omega) hm hm2 (show -3 ≤ u - 3 by omega) (by omega) (k := k) (by omega)
    exact ⟨v, p', a, b1, c, by omega, by omega⟩
  rw [if_neg c0]
  by_cases c1 : v = 1
  · rw [if_pos c1]
    obtain ⟨u, r1, r2, r3⟩ := pick_tells hb hl (show 0 ≤ p + 1 by omega) (show p + 1 < 1000000 by omega) (show (3 : Int) < 1073741824 by omega) (k := k) (by omega)
    rw [r1]; simp only [Option.bind_some]
    rw [w64 (x := m - u) (by omega) (by omega)]
    obtain ⟨v, p', a, b1, c, d1, e⟩ := big_j1 hb hl (show 0 ≤ p + 1 + 1 by omega) (show p + 1 + 1 < 999990 by omega) hm hm2 (show -3 ≤ m - u by omega) (by omega) (k := k) (by omega)
    exact ⟨v, p', a, b1, c, by omega, by omega⟩
  rw [if_neg c1]
  by_cases c2 : v = 2
  · rw [if_pos c2]
    obtain ⟨u, r1, r2, r3⟩ := pick_tells hb hl (show 0 ≤ p + 1 by omega) (show p + 1 < 1000000 by omega) (show (1048576 : Int) < 1073741824 by omega) (k := k) (by omega)
    rw [r1]; simp only [Option.bind_some]
    obtain ⟨v, p', a, b1, c, d1, e⟩ := big_j1 hb hl (show 0 ≤ p + 1 + 1 by omega) (show p + 1 + 1 < 999990 by omega) hm hm2 (show -3 ≤ u by omega) (by omega) (k := k) (by omega)
    exact ⟨v, p', a, b1, c, by omega, by omega⟩
  rw [if_neg c2]
  obtain ⟨v, p', a, b1, c, d1, e⟩ := big_l0 hb hl hm hm2 4 k (p + 1) 0 0 (by omega) (by omega) (by omega) (by omega) (by omega) (by omega) (by omega) (by omega) (by omega) (by omega) (by omega)
  exact ⟨v, p', a, b1, c, by omega, by omega⟩
theorem open_tells {l : List Int} (hl : Bytes l) : ∃ b, spec_l6Open.f l = some (b, 0) ∧ Bytes b ∧ b.length ≤ 2000 := by
  unfold spec_l6Open.f
  by_cases h : (l.length : Int) > 2000
  · rw [if_pos h, if_pos (by omega)]
    exact ⟨_, rfl, fun x hx => hl x (List.mem_of_mem_take hx), by simp; omega⟩
  · rw [if_neg h]
    exact ⟨_, rfl, hl, by omega⟩
theorem sine71_tells {b : List Int} (hb : Bytes b) (hl : b.length ≤ 2000) {p : Int} (hp : 0 ≤ p) (hp2 : p < 999900) {k : Nat} (hk : 20 ≤ k) :
    ∃ v p', spec_l71Sine.f k b p = some (v, p') ∧ -1000000001 ≤ v ∧ v ≤ 1000000001 ∧ p ≤ p' ∧ p' ≤ p + 9 := by
  unfold spec_l71Sine.f
  obtain ⟨v, q1, q2, q3⟩ := pick_tells hb hl hp (show p < 1000000 by omega) (show (10 : Int) < 1073741824 by omega) (k := k) (by omega)
  rw [q1]; simp only [Option.bind_some]
  by_cases c0 : v = 0
  · rw [if_pos c0]
    obtain ⟨u, r1, r2, r3⟩ := pick_tells hb hl (show 0 ≤ p + 1 by omega) (by omega) (show (7 : Int) < 1073741824 by omega) (k := k) (by omega)
    rw [r1]; simp only [Option.bind_some]
    rw [if_pos r2, if_pos (by simp; omega)]
    have hu : u = 0 ∨ u = 1 ∨ u = 2 ∨ u = 3 ∨ u = 4 ∨ u = 5 ∨ u = 6 := by omega
    refine ⟨_, _, rfl, ?_, ?_, by omega, by omega⟩ <;> (rcases hu with h | h | h | h | h | h | h <;> subst h <;> decide)
  rw [if_neg c0]
  by_cases c1 : v = 1
  · rw [if_pos c1]
    obtain ⟨u, r1, r2, r3⟩ := pick_tells hb hl (show 0 ≤ p + 1 by omega) (by omega) (show (1000 : Int) < 1073741824 by omega) (k := k) (by omega)
    rw [r1]; simp only [Option.bind_some]
    rw [w64 (x := 1000000000 - u) (by omega) (by omega)]
    exact ⟨_, _, rfl, by omega, by omega, by omega, by omega⟩
  rw [if_neg c1]
  obtain ⟨u, p', r1, r2, r3, r4, r5⟩ := big_tells hb hl (show 0 ≤ p + 1 by omega) (by omega) (show (3 : Int) ≤ 1000000000 by omega) (by omega) (k := k) (by omega)
  rw [r1]; simp only [Option.bind_some]
  exact ⟨_, _, rfl, by omega, by omega, by omega, by omega⟩
theorem drawSineBack_tells {l : List Int} (hl : Bytes l) {k : Nat} (hk : 20 ≤ k) : ∃ n, spec_DrawSineBack.f k l = some n ∧ -1000000001 ≤ n ∧ n ≤ 1000000001 := by
  unfold spec_DrawSineBack.f
  obtain ⟨b, h1, h2, h3⟩ := open_tells hl
  rw [h1]; simp only [Option.bind_some]
  obtain ⟨u, p, q1, q2, q3, q4, q5⟩ := sine71_tells h2 h3 (show (0 : Int) ≤ 0 by omega) (by omega) (k := k) hk
  rw [q1]; simp only [Option.bind_some]
  exact ⟨u, rfl, q2, q3⟩
theorem drawWayOf_tells {l : List Int} (hl : Bytes l) {k : Nat} (hk : 20 ≤ k) : ∃ u r, spec_DrawWayOf.f k l = some (u, r) ∧ -1000000001 ≤ u ∧ u ≤ 1000000001 ∧ -1000000001 ≤ r ∧ r ≤ 1000000001 := by
  unfold spec_DrawWayOf.f
  obtain ⟨b, h1, h2, h3⟩ := open_tells hl
  rw [h1]; simp only [Option.bind_some]
  obtain ⟨u, p, q1, q2, q3, q4, q5⟩ := sine71_tells h2 h3 (show (0 : Int) ≤ 0 by omega) (by omega) (k := k) hk
  rw [q1]; simp only [Option.bind_some]
  obtain ⟨v, p2, r1, r2, r3, r4, r5⟩ := sine71_tells h2 h3 (show (0 : Int) ≤ p by omega) (by omega) (k := k) hk
  rw [r1]; simp only [Option.bind_some]
  obtain ⟨z, s1, s2, s3⟩ := pick_tells h2 h3 (show 0 ≤ p2 by omega) (by omega) (show (6 : Int) < 1073741824 by omega) (k := k) (by omega)
  rw [s1]; simp only [Option.bind_some]
  split
  · exact ⟨_, _, rfl, by omega, by omega, by omega, by omega⟩
  split
  · exact ⟨_, _, rfl, by omega, by omega, by omega, by omega⟩
  split
  · exact ⟨_, _, rfl, by omega, by omega, by omega, by omega⟩
  · exact ⟨_, _, rfl, by omega, by omega, by omega, by omega⟩
section
variable (k : Nat) (A0 : Option Addr) (c0 : Nat) (l0 : List Int) (A1 : Option Addr) (c1 : Nat) (l1 : List Int) (w : World)
set_option maxHeartbeats 1000000 in
set_option maxRecDepth 100000 in
theorem FnWayWhole_big (h0 : (l0.length : Int) > 1048576) :
    Calls Try.prog 12 #[.slice A0 l0.length c0, .slice A1 l1.length c1] w fun e w' => e = .returned (.bool true) ∧ Below w.heap.size w w' := by
  have d0 : decide (1048576 < (l0.length : Int)) = true := decide_eq_true h0
  have d1 : decide (1048576 < l0.length) = true := decide_eq_true (by omega)
  clear h0
  go_enter Try.func12, Try.ntmps12
  go_wp2
  go_ret
  exact ⟨rfl, Below.refl _ _⟩
set_option maxHeartbeats 1000000 in
set_option maxRecDepth 100000 in
theorem FnWayWhole_big1 (h0 : ¬ (l0.length : Int) > 1048576) (h1 : (l1.length : Int) > 1048576) :
    Calls Try.prog 12 #[.slice A0 l0.length c0, .slice A1 l1.length c1] w fun e w' => e = .returned (.bool true) ∧ Below w.heap.size w w' := by
  have c0b0 : decide (1048576 < (l0.length : Int)) = false := decide_eq_false h0
  have c0b1 : decide (1048576 < l0.length) = false := decide_eq_false (by omega)
  clear h0
  have d0 : decide (1048576 < (l1.length : Int)) = true := decide_eq_true h1
  have d1 : decide (1048576 < l1.length) = true := decide_eq_true (by omega)
  clear h1
  go_enter Try.func12, Try.ntmps12
  go_wp2
  go_ret
  exact ⟨rfl, Below.refl _ _⟩
set_option maxHeartbeats 6000000 in
set_option maxRecDepth 100000 in
theorem FnWayWhole_bad (hr0 : Kd.C (Kd.int .u8) w A0 l0.length l0) (hc0 : l0.length ≤ c0) (h0 : ¬ (l0.length : Int) > 1048576) (hr1 : Kd.C (Kd.int .u8) w A1 l1.length l1) (hc1 : l1.length ≤ c1) (h1 : ¬ (l1.length : Int) > 1048576)
    (u r z1 z2 p1 p2 e1 e2 g1 g2 : Int)
    (q0 : spec_DrawWayOf.f k l0 = some (u, r))
    (q1 : spec_WayOf.f k u r = some (0, 0, false))
    (q2 : impl_WayOf.f k u r = some (0, 0, false))
    (q3 : impl_WayOf.f k 0 (wrap64 (1 + (l1.length : Int))) = some (z1, z2, true))
    (q4 : impl_WayOf.f k (wrap64 (1 + (l1.length : Int))) 0 = some (p1, p2, true))
    (q5 : impl_WayOf.f k (wrap64 (1 + (l1.length : Int))) (wrap64 (1 + (l1.length : Int))) = some (e1, e2, true))
    (q6 : impl_WayOf.f k 0 (wrap64 (-(wrap64 (1 + (l1.length : Int))))) = some (g1, g2, true))
    (q7 : impl_WayOf.f k 0 0 = some (0, 0, false))
    (q8 : impl_FanHas.f z1 z2 0 = some (true))
    (q9 : impl_FanHas.f p1 p2 32400000 = some (true))
    (q10 : impl_FanHas.f e1 e2 16200000 = some (true))
    (q11 : impl_FanHas.f g1 g2 64800000 = some (true)) :
    Calls Try.prog 12 #[.slice A0 l0.length c0, .slice A1 l1.length c1] w fun e w' => e = .returned (.bool true) ∧ Below w.heap.size w w' := by
  have hu_Fan := Try.underlying30
  have HR0 := Aside0.mk hr0
  have HC0 := Aside0.mk hc0
  have HR1 := Aside0.mk hr1
  have HC1 := Aside0.mk hc1
  have Q0 := Aside0.mk q0
  have Q1 := Aside0.mk q1
  have Q2 := Aside0.mk q2
  have Q3 := Aside0.mk q3
  have Q4 := Aside0.mk q4
  have Q5 := Aside0.mk q5
  have Q6 := Aside0.mk q6
  have Q7 := Aside0.mk q7
  have Q8 := Aside0.mk q8
  have Q9 := Aside0.mk q9
  have Q10 := Aside0.mk q10
  have Q11 := Aside0.mk q11
  clear hr0 hc0 hr1 hc1 q0 q1 q2 q3 q4 q5 q6 q7 q8 q9 q10 q11
  have c0b0 : decide (1048576 < (l0.length : Int)) = false := decide_eq_false h0
  have c0b1 : decide (1048576 < l0.length) = false := decide_eq_false (by omega)
  have c1b0 : decide (1048576 < (l1.length : Int)) = false := decide_eq_false h1
  have c1b1 : decide (1048576 < l1.length) = false := decide_eq_false (by omega)
  clear h0
  clear h1
  have HB := Bl.refl w
  go_enter Try.func12, Try.ntmps12
  go_wp2_with (first
    | (go_at_call 28; (with_reducible refine (spec_DrawWayOf.calls k _ _ l0 u r _ HR0.out HC0.out Q0.out).mono ?_); rintro e w1 ⟨rfl, hb1⟩; replace HB := Bl.call hb1 HB)
    | (go_at_call 29; (with_reducible refine (spec_WayOf.calls k u r 0 0 false _ Q1.out).mono ?_); rintro e w2 ⟨rfl, hb2⟩; replace HB := Bl.call hb2 HB)
    | (go_at_call 30; (with_reducible refine (impl_WayOf.calls k u r 0 0 false _ Q2.out).mono ?_); rintro e w3 ⟨rfl, hb3⟩; replace HB := Bl.call hb3 (HB.alloc _); obtain ⟨hc3, hf3⟩ := bcell hb3; have hz2_3 : w2.heap.size < w3.heap.size := (by have := hb3.size; simp at this; omega))
    | (go_at_call 30; (with_reducible refine (impl_WayOf.calls k 0 (wrap64 (1 + (l1.length : Int))) z1 z2 true _ Q3.out).mono ?_); rintro e w4 ⟨rfl, hb4⟩; replace HB := Bl.call hb4 (HB.alloc _); obtain ⟨hc4, hf4⟩ := bcell hb4; have hz3_4 : w3.heap.size < w4.heap.size := (by have := hb4.size; simp at this; omega); have hz2_4 : w2.heap.size < w4.heap.size := (by omega))
    | (go_at_call 30; (with_reducible refine (impl_WayOf.calls k (wrap64 (1 + (l1.length : Int))) 0 p1 p2 true _ Q4.out).mono ?_); rintro e w5 ⟨rfl, hb5⟩; replace HB := Bl.call hb5 (HB.alloc _); obtain ⟨hc5, hf5⟩ := bcell hb5; have hz4_5 : w4.heap.size < w5.heap.size := (by have := hb5.size; simp at this; omega); have hz2_5 : w2.heap.size < w5.heap.size := (by omega); have hz3_5 : w3.heap.size < w5.heap.size := (by omega))
    | (go_at_call 30; (with_reducible refine (impl_WayOf.calls k (wrap64 (1 + (l1.length : Int))) (wrap64 (1 + (l1.length : Int))) e1 e2 true _ Q5.out).mono ?_); rintro e w6 ⟨rfl, hb6⟩; replace HB := Bl.call hb6 (HB.alloc _); obtain ⟨hc6, hf6⟩ := bcell hb6; have hz5_6 : w5.heap.size < w6.heap.size := (by have := hb6.size; simp at this; omega); have hz2_6 : w2.heap.size < w6.heap.size := (by omega); have hz3_6 : w3.heap.size < w6.heap.size := (by omega); have hz4_6 : w4.heap.size < w6.heap.size := (by omega))
    | (go_at_call 30; (with_reducible refine (impl_WayOf.calls k 0 (wrap64 (-(wrap64 (1 + (l1.length : Int))))) g1 g2 true _ Q6.out).mono ?_); rintro e w7 ⟨rfl, hb7⟩; replace HB := Bl.call hb7 (HB.alloc _); obtain ⟨hc7, hf7⟩ := bcell hb7; have hz6_7 : w6.heap.size < w7.heap.size := (by have := hb7.size; simp at this; omega); have hz2_7 : w2.heap.size < w7.heap.size := (by omega); have hz3_7 : w3.heap.size < w7.heap.size := (by omega); have hz4_7 : w4.heap.size < w7.heap.size := (by omega); have hz5_7 : w5.heap.size < w7.heap.size := (by omega))
    | (go_at_call 30; (with_reducible refine (impl_WayOf.calls k 0 0 0 0 false _ Q7.out).mono ?_); rintro e w8 ⟨rfl, hb8⟩; replace HB := Bl.call hb8 (HB.alloc _); obtain ⟨hc8, hf8⟩ := bcell hb8; have hz7_8 : w7.heap.size < w8.heap.size := (by have := hb8.size; simp at this; omega); have hz2_8 : w2.heap.size < w8.heap.size := (by omega); have hz3_8 : w3.heap.size < w8.heap.size := (by omega); have hz4_8 : w4.heap.size < w8.heap.size := (by omega); have hz5_8 : w5.heap.size < w8.heap.size := (by omega); have hz6_8 : w6.heap.size < w8.heap.size := (by omega))
    | (go_at_call 31; (with_reducible refine (impl_FanHas.calls z1 z2 0 true _ Q8.out).mono ?_); rintro e w9 ⟨rfl, hb9⟩; replace HB := Bl.call hb9 (HB.alloc _); obtain ⟨hc9, hf9⟩ := bcell hb9; have hz8_9 : w8.heap.size < w9.heap.size := (by have := hb9.size; simp at this; omega); have hz2_9 : w2.heap.size < w9.heap.size := (by omega); have hz3_9 : w3.heap.size < w9.heap.size := (by omega); have hz4_9 : w4.heap.size < w9.heap.size := (by omega); have hz5_9 : w5.heap.size < w9.heap.size := (by omega); have hz6_9 : w6.heap.size < w9.heap.size := (by omega); have hz7_9 : w7.heap.size < w9.heap.size := (by omega))
    | (go_at_call 31; (with_reducible refine (impl_FanHas.calls p1 p2 32400000 true _ Q9.out).mono ?_); rintro e w10 ⟨rfl, hb10⟩; replace HB := Bl.call hb10 HB; obtain ⟨hc10, hf10⟩ := bcell hb10; have hy10 : w9.heap.size ≤ w10.heap.size := hb10.size; have hz2_10 : w2.heap.size < w10.heap.size := (by omega); have hz3_10 : w3.heap.size < w10.heap.size := (by omega); have hz4_10 : w4.heap.size < w10.heap.size := (by omega); have hz5_10 : w5.heap.size < w10.heap.size := (by omega); have hz6_10 : w6.heap.size < w10.heap.size := (by omega); have hz7_10 : w7.heap.size < w10.heap.size := (by omega); have hz8_10 : w8.heap.size < w10.heap.size := (by omega))
    | (go_at_call 31; (with_reducible refine (impl_FanHas.calls e1 e2 16200000 true _ Q10.out).mono ?_); rintro e w11 ⟨rfl, hb11⟩; replace HB := Bl.call hb11 HB; obtain ⟨hc11, hf11⟩ := bcell hb11; have hy11 : w10.heap.size ≤ w11.heap.size := hb11.size; have hz2_11 : w2.heap.size < w11.heap.size := (by omega); have hz3_11 : w3.heap.size < w11.heap.size := (by omega); have hz4_11 : w4.heap.size < w11.heap.size := (by omega); have hz5_11 : w5.heap.size < w11.heap.size := (by omega); have hz6_11 : w6.heap.size < w11.heap.size := (by omega); have hz7_11 : w7.heap.size < w11.heap.size := (by omega); have hz8_11 : w8.heap.size < w11.heap.size := (by omega))
    | (go_at_call 31; (with_reducible refine (impl_FanHas.calls g1 g2 64800000 true _ Q11.out).mono ?_); rintro e w12 ⟨rfl, hb12⟩; replace HB := Bl.call hb12 HB; obtain ⟨hc12, hf12⟩ := bcell hb12; have hy12 : w11.heap.size ≤ w12.heap.size := hb12.size; have hz2_12 : w2.heap.size < w12.heap.size := (by omega); have hz3_12 : w3.heap.size < w12.heap.size := (by omega); have hz4_12 : w4.heap.size < w12.heap.size := (by omega); have hz5_12 : w5.heap.size < w12.heap.size := (by omega); have hz6_12 : w6.heap.size < w12.heap.size := (by omega); have hz7_12 : w7.heap.size < w12.heap.size := (by omega); have hz8_12 : w8.heap.size < w12.heap.size := (by omega)))
  go_ret
  exact ⟨rfl, HB.out⟩
set_option maxHeartbeats 6000000 in
set_option maxRecDepth 100000 in
theorem FnWayWhole_ok (hr0 : Kd.C (Kd.int .u8) w A0 l0.length l0) (hc0 : l0.length ≤ c0) (h0 : ¬ (l0.length : Int) > 1048576) (hr1 : Kd.C (Kd.int .u8) w A1 l1.length l1) (hc1 : l1.length ≤ c1) (h1 : ¬ (l1.length : Int) > 1048576)
    (u r a b z1 z2 p1 p2 e1 e2 g1 g2 : Int)
    (q0 : spec_DrawWayOf.f k l0 = some (u, r))
    (q1 : spec_WayOf.f k u r = some (a, b, true))
    (q2 : impl_WayOf.f k u r = some (a, b, true))
    (q3 : impl_WayOf.f k 0 (wrap64 (1 + (l1.length : Int))) = some (z1, z2, true))
    (q4 : impl_WayOf.f k (wrap64 (1 + (l1.length : Int))) 0 = some (p1, p2, true))
    (q5 : impl_WayOf.f k (wrap64 (1 + (l1.length : Int))) (wrap64 (1 + (l1.length : Int))) = some (e1, e2, true))
    (q6 : impl_WayOf.f k 0 (wrap64 (-(wrap64 (1 + (l1.length : Int))))) = some (g1, g2, true))
    (q7 : impl_WayOf.f k 0 0 = some (0, 0, false))
    (q8 : impl_FanHas.f z1 z2 0 = some (true))
    (q9 : impl_FanHas.f p1 p2 32400000 = some (true))
    (q10 : impl_FanHas.f e1 e2 16200000 = some (true))
    (q11 : impl_FanHas.f g1 g2 64800000 = some (true)) :
    Calls Try.prog 12 #[.slice A0 l0.length c0, .slice A1 l1.length c1] w fun e w' => e = .returned (.bool true) ∧ Below w.heap.size w w' := by
  have hu_Fan := Try.underlying30
  have HR0 := Aside0.mk hr0
  have HC0 := Aside0.mk hc0
  have HR1 := Aside0.mk hr1
  have HC1 := Aside0.mk hc1
  have Q0 := Aside0.mk q0
  have Q1 := Aside0.mk q1
  have Q2 := Aside0.mk q2
  have Q3 := Aside0.mk q3
  have Q4 := Aside0.mk q4
  have Q5 := Aside0.mk q5
  have Q6 := Aside0.mk q6
  have Q7 := Aside0.mk q7
  have Q8 := Aside0.mk q8
  have Q9 := Aside0.mk q9
  have Q10 := Aside0.mk q10
  have Q11 := Aside0.mk q11
  clear hr0 hc0 hr1 hc1 q0 q1 q2 q3 q4 q5 q6 q7 q8 q9 q10 q11
  have c0b0 : decide (1048576 < (l0.length : Int)) = false := decide_eq_false h0
  have c0b1 : decide (1048576 < l0.length) = false := decide_eq_false (by omega)
  have c1b0 : decide (1048576 < (l1.length : Int)) = false := decide_eq_false h1
  have c1b1 : decide (1048576 < l1.length) = false := decide_eq_false (by omega)
  clear h0
  clear h1
  have HB := Bl.refl w
  go_enter Try.func12, Try.ntmps12
  go_wp2_with (first
    | (go_at_call 28; (with_reducible refine (spec_DrawWayOf.calls k _ _ l0 u r _ HR0.out HC0.out Q0.out).mono ?_); rintro e w1 ⟨rfl, hb1⟩; replace HB := Bl.call hb1 HB)
    | (go_at_call 29; (with_reducible refine (spec_WayOf.calls k u r a b true _ Q1.out).mono ?_); rintro e w2 ⟨rfl, hb2⟩; replace HB := Bl.call hb2 HB)
    | (go_at_call 30; (with_reducible refine (impl_WayOf.calls k u r a b true _ Q2.out).mono ?_); rintro e w3 ⟨rfl, hb3⟩; replace HB := Bl.call hb3 (HB.alloc _); obtain ⟨hc3, hf3⟩ := bcell hb3; have hz2_3 : w2.heap.size < w3.heap.size := (by have := hb3.size; simp at this; omega))
    | (go_at_call 30; (with_reducible refine (impl_WayOf.calls k 0 (wrap64 (1 + (l1.length : Int))) z1 z2 true _ Q3.out).mono ?_); rintro e w4 ⟨rfl, hb4⟩; replace HB := Bl.call hb4 (HB.alloc _); obtain ⟨hc4, hf4⟩ := bcell hb4; have hz3_4 : w3.heap.size < w4.heap.size := (by have := hb4.size; simp at this; omega); have hz2_4 : w2.heap.size < w4.heap.size := (by omega))
    | (go_at_call 30; (with_reducible refine (impl_WayOf.calls k (wrap64 (1 + (l1.length : Int))) 0 p1 p2 true _ Q4.out).mono ?_); rintro e w5 ⟨rfl, hb5⟩; replace HB := Bl.call hb5 (HB.alloc _); obtain ⟨hc5, hf5⟩ := bcell hb5; have hz4_5 : w4.heap.size < w5.heap.size := (by have := hb5.size; simp at this; omega); have hz2_5 : w2.heap.size < w5.heap.size := (by omega); have hz3_5 : w3.heap.size < w5.heap.size := (by omega))
    | (go_at_call 30; (with_reducible refine (impl_WayOf.calls k (wrap64 (1 + (l1.length : Int))) (wrap64 (1 + (l1.length : Int))) e1 e2 true _ Q5.out).mono ?_); rintro e w6 ⟨rfl, hb6⟩; replace HB := Bl.call hb6 (HB.alloc _); obtain ⟨hc6, hf6⟩ := bcell hb6; have hz5_6 : w5.heap.size < w6.heap.size := (by have := hb6.size; simp at this; omega); have hz2_6 : w2.heap.size < w6.heap.size := (by omega); have hz3_6 : w3.heap.size < w6.heap.size := (by omega); have hz4_6 : w4.heap.size < w6.heap.size := (by omega))
    | (go_at_call 30; (with_reducible refine (impl_WayOf.calls k 0 (wrap64 (-(wrap64 (1 + (l1.length : Int))))) g1 g2 true _ Q6.out).mono ?_); rintro e w7 ⟨rfl, hb7⟩; replace HB := Bl.call hb7 (HB.alloc _); obtain ⟨hc7, hf7⟩ := bcell hb7; have hz6_7 : w6.heap.size < w7.heap.size := (by have := hb7.size; simp at this; omega); have hz2_7 : w2.heap.size < w7.heap.size := (by omega); have hz3_7 : w3.heap.size < w7.heap.size := (by omega); have hz4_7 : w4.heap.size < w7.heap.size := (by omega); have hz5_7 : w5.heap.size < w7.heap.size := (by omega))
    | (go_at_call 30; (with_reducible refine (impl_WayOf.calls k 0 0 0 0 false _ Q7.out).mono ?_); rintro e w8 ⟨rfl, hb8⟩; replace HB := Bl.call hb8 (HB.alloc _); obtain ⟨hc8, hf8⟩ := bcell hb8; have hz7_8 : w7.heap.size < w8.heap.size := (by have := hb8.size; simp at this; omega); have hz2_8 : w2.heap.size < w8.heap.size := (by omega); have hz3_8 : w3.heap.size < w8.heap.size := (by omega); have hz4_8 : w4.heap.size < w8.heap.size := (by omega); have hz5_8 : w5.heap.size < w8.heap.size := (by omega); have hz6_8 : w6.heap.size < w8.heap.size := (by omega))
    | (go_at_call 31; (with_reducible refine (impl_FanHas.calls z1 z2 0 true _ Q8.out).mono ?_); rintro e w9 ⟨rfl, hb9⟩; replace HB := Bl.call hb9 (HB.alloc _); obtain ⟨hc9, hf9⟩ := bcell hb9; have hz8_9 : w8.heap.size < w9.heap.size := (by have := hb9.size; simp at this; omega); have hz2_9 : w2.heap.size < w9.heap.size := (by omega); have hz3_9 : w3.heap.size < w9.heap.size := (by omega); have hz4_9 : w4.heap.size < w9.heap.size := (by omega); have hz5_9 : w5.heap.size < w9.heap.size := (by omega); have hz6_9 : w6.heap.size < w9.heap.size := (by omega); have hz7_9 : w7.heap.size < w9.heap.size := (by omega))
    | (go_at_call 31; (with_reducible refine (impl_FanHas.calls p1 p2 32400000 true _ Q9.out).mono ?_); rintro e w10 ⟨rfl, hb10⟩; replace HB := Bl.call hb10 HB; obtain ⟨hc10, hf10⟩ := bcell hb10; have hy10 : w9.heap.size ≤ w10.heap.size := hb10.size; have hz2_10 : w2.heap.size < w10.heap.size := (by omega); have hz3_10 : w3.heap.size < w10.heap.size := (by omega); have hz4_10 : w4.heap.size < w10.heap.size := (by omega); have hz5_10 : w5.heap.size < w10.heap.size := (by omega); have hz6_10 : w6.heap.size < w10.heap.size := (by omega); have hz7_10 : w7.heap.size < w10.heap.size := (by omega); have hz8_10 : w8.heap.size < w10.heap.size := (by omega))
    | (go_at_call 31; (with_reducible refine (impl_FanHas.calls e1 e2 16200000 true _ Q10.out).mono ?_); rintro e w11 ⟨rfl, hb11⟩; replace HB := Bl.call hb11 HB; obtain ⟨hc11, hf11⟩ := bcell hb11; have hy11 : w10.heap.size ≤ w11.heap.size := hb11.size; have hz2_11 : w2.heap.size < w11.heap.size := (by omega); have hz3_11 : w3.heap.size < w11.heap.size := (by omega); have hz4_11 : w4.heap.size < w11.heap.size := (by omega); have hz5_11 : w5.heap.size < w11.heap.size := (by omega); have hz6_11 : w6.heap.size < w11.heap.size := (by omega); have hz7_11 : w7.heap.size < w11.heap.size := (by omega); have hz8_11 : w8.heap.size < w11.heap.size := (by omega))
    | (go_at_call 31; (with_reducible refine (impl_FanHas.calls g1 g2 64800000 true _ Q11.out).mono ?_); rintro e w12 ⟨rfl, hb12⟩; replace HB := Bl.call hb12 HB; obtain ⟨hc12, hf12⟩ := bcell hb12; have hy12 : w11.heap.size ≤ w12.heap.size := hb12.size; have hz2_12 : w2.heap.size < w12.heap.size := (by omega); have hz3_12 : w3.heap.size < w12.heap.size := (by omega); have hz4_12 : w4.heap.size < w12.heap.size := (by omega); have hz5_12 : w5.heap.size < w12.heap.size := (by omega); have hz6_12 : w6.heap.size < w12.heap.size := (by omega); have hz7_12 : w7.heap.size < w12.heap.size := (by omega); have hz8_12 : w8.heap.size < w12.heap.size := (by omega)))
  go_ret
  exact ⟨rfl, HB.out⟩
end
theorem FanHas_is {a b x : Int} (h1 : -129600000 ≤ a) (h2 : a ≤ x) (h3 : x ≤ b) (h4 : b ≤ 129600000) : impl_FanHas.f a b x = some true := by
  have a1 : a ≤ 129600000 := by omega
  have a2 : -129600000 ≤ b := by omega
  have a3 : a ≤ b := by omega
  unfold impl_FanHas.f impl_fanOk.f impl_aTurn.f
  simp only [in_is, Option.bind_some]
  simp [h1, h2, h3, h4, a1, a2, a3]
theorem FnWayWhole_true (A0 : Option Addr) (c0 : Nat) (l0 : List Int) (A1 : Option Addr) (c1 : Nat) (l1 : List Int) (w : World) (hr0 : Kd.C (Kd.int .u8) w A0 l0.length l0) (hc0 : l0.length ≤ c0) (hw0 : ∀ x ∈ l0, (Lit.int .u8 x).wf = true) (hr1 : Kd.C (Kd.int .u8) w A1 l1.length l1) (hc1 : l1.length ≤ c1) (hw1 : ∀ x ∈ l1, (Lit.int .u8 x).wf = true) :
    Calls Try.prog 12 #[.slice A0 l0.length c0, .slice A1 l1.length c1] w fun e w' => e = .returned (.bool true) ∧ Below w.heap.size w w' := by
  by_cases h : (l0.length : Int) > 1048576
  · exact FnWayWhole_big A0 c0 l0 A1 c1 l1 w h
  by_cases h' : (l1.length : Int) > 1048576
  · exact FnWayWhole_big1 A0 c0 l0 A1 c1 l1 w h h'
  obtain ⟨u, r, hd, -, -, -, -⟩ := drawWayOf_tells (bytes_of hw0) (k := 300) (by omega)
  obtain ⟨i1, i2⟩ := WayOf_is (a0 := u) (a1 := r) (k := 300) (by omega)
  have en : wrap64 (1 + (l1.length : Int)) = 1 + (l1.length : Int) := w64 (by omega) (by omega)
  have em : wrap64 (-(wrap64 (1 + (l1.length : Int)))) = -(1 + (l1.length : Int)) := by rw [en]; exact w64 (by omega) (by omega)
  obtain ⟨n, hn⟩ : ∃ n : Int, n = 1 + (l1.length : Int) := ⟨_, rfl⟩
  have j1 := (WayOf_is (a0 := 0) (a1 := n) (k := 300) (by omega)).1
  have j2 := (WayOf_is (a0 := n) (a1 := 0) (k := 300) (by omega)).1
  have j3 := (WayOf_is (a0 := n) (a1 := n) (k := 300) (by omega)).1
  have j4 := (WayOf_is (a0 := 0) (a1 := -n) (k := 300) (by omega)).1
  have j5 := (WayOf_is (a0 := 0) (a1 := 0) (k := 300) (by omega)).1
  rw [if_pos ⟨by omega, by omega, by omega, by omega, by omega⟩, wayM_plain (by omega) (by omega)] at j1 j2 j3
  rw [if_pos ⟨by omega, by omega, by omega, by omega, by omega⟩] at j4
  rw [if_neg (by unfold wayOk; omega)] at j5
  have e4 : wayM 0 (-n) = (64800000 - (quartW 0 n).2, 64800000 - (quartW 0 n).1) := by
    unfold wayM
    have a0 : absM 0 = 0 := rfl
    have a1 : absM (-n) = n := by unfold absM; rw [if_pos (by omega)]; omega
    rw [if_pos (by omega), if_neg (by omega), a0, a1]
  rw [e4] at j4
  have z := quartW_zero (n := n) (by omega)
  have p := quartW_up (n := n) (by omega)
  have e := quartW_even (n := n) (by omega)
  obtain ⟨z1, z2, z3, z4, -, -⟩ := quartW_tells (u := 0) (r := n) (by omega) (by omega)
  obtain ⟨p1, p2, p3, p4, -, -⟩ := quartW_tells (u := n) (r := 0) (by omega) (by omega)
  obtain ⟨e1, e2, e3, e4', -, -⟩ := quartW_tells (u := n) (r := n) (by omega) (by omega)
  have f1 := FanHas_is (a := (quartW 0 n).1) (b := (quartW 0 n).2) (x := 0) (by omega) (by omega) (by omega) (by omega)
  have f2 := FanHas_is (a := (quartW n 0).1) (b := (quartW n 0).2) (x := 32400000) (by omega) (by omega) (by omega) (by omega)
  have f3 := FanHas_is (a := (quartW n n).1) (b := (quartW n n).2) (x := 16200000) (by omega) (by omega) (by omega) (by omega)
  have f4 := FanHas_is (a := 64800000 - (quartW 0 n).2) (b := 64800000 - (quartW 0 n).1) (x := 64800000) (by omega) (by omega) (by omega) (by omega)
  by_cases hin : wayOk u r
  · rw [if_pos hin] at i1 i2
    exact FnWayWhole_ok 300 A0 c0 l0 A1 c1 l1 w hr0 hc0 h hr1 hc1 h' u r _ _ _ _ _ _ _ _ _ _ hd i2 i1 (by rw [en, ← hn]; exact j1) (by rw [en, ← hn]; exact j2) (by rw [en, ← hn]; exact j3) (by rw [em, ← hn]; exact j4) j5 f1 f2 f3 f4
  · rw [if_neg hin] at i1 i2
    exact FnWayWhole_bad 300 A0 c0 l0 A1 c1 l1 w hr0 hc0 h hr1 hc1 h' u r _ _ _ _ _ _ _ _ hd i2 i1 (by rw [en, ← hn]; exact j1) (by rw [en, ← hn]; exact j2) (by rw [en, ← hn]; exact j3) (by rw [em, ← hn]; exact j4) j5 f1 f2 f3 f4

end Go.Proofs.Ytcdgplkmahabiaa.M

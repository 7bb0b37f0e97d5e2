import Derived.Test.YtmcippkpgmehdaaP6
import Derived.Test.YtmcippkpgmehdaaDa
import Derived.Test.YtmcippkpgmehdaaDb
import Derived.Test.YtmcippkpgmehdaaDc
namespace Go.Proofs.Ytmcippkpgmehdaa.M
open Go.RowKit Go.Proofs.YtmcippkpgmehdaaW.PrintWords Go.Proofs.YtmcippkpgmehdaaW.PrintLast Go.Proofs.YtmcippkpgmehdaaW.PrintMore
attribute [local go_sem] max2_int min2_int max_two min_two max_three min_three max_four min_four
attribute [local go_sem high] eqA42 eqA29 eqA24
attribute [local go_sem] fld42_0 fld42_1 fld29_0 fld29_1 fld24_0 fld24_1 fld38_0 fld38_1 fld88_0 fld88_1 fld88_2 fld88_3 fld88_4
set_option linter.unusedVariables false
set_option linter.unusedSimpArgs false
/-- A list of bytes. -/
def Bytes (l : List Int) : Prop := ∀ x ∈ l, 0 ≤ x ∧ x < 256
theorem bytes_of {l : List Int} (h : ∀ x ∈ l, (Lit.int .u8 x).wf = true) : Bytes l := by
 intro x hx
 have := h x hx
 simp [Lit.wf, IntKind.min, IntKind.max, IntKind.bits, IntKind.signed] at this
 omega
theorem Bytes.at_ {l : List Int} (h : Bytes l) (i : Int) : 0 ≤ rd l i ∧ rd l i < 256 := by
 unfold rd
 rw [List.getD_eq_getElem?_getD]
 rcases Nat.lt_or_ge i.toNat l.length with h1 | h1
 ·rw [List.getElem?_eq_getElem h1]
  exact h _ (List.getElem_mem h1)
 ·rw [List.getElem?_eq_none h1]; simp
theorem bits_xor {a b : Int} (ha : 0 ≤ a) (ha2 : a < 1099511627776) (hb : 0 ≤ b) (hb2 : b < 1099511627776) : 0 ≤ Go.bits .xor .i64 a b ∧ Go.bits .xor .i64 a b < 1099511627776 := by
 obtain ⟨a, rfl⟩ := Int.eq_ofNat_of_zero_le ha
 obtain ⟨b, rfl⟩ := Int.eq_ofNat_of_zero_le hb
 have h := Nat.xor_lt_two_pow (n := 40) (x := a) (y := b) (by omega) (by omega)
 have ea : a % 2 ^ 64 = a := Nat.mod_eq_of_lt (by omega)
 have eb : b % 2 ^ 64 = b := Nat.mod_eq_of_lt (by omega)
 have e : Go.bits .xor .i64 (a : Int) (b : Int) = ((a ^^^ b : Nat) : Int) := by
  show IntKind.i64.wrap ((BitVec.ofInt 64 (a : Int) ^^^ BitVec.ofInt 64 (b : Int)).toNat : Nat) = _
  rw [BitVec.ofInt_natCast, BitVec.ofInt_natCast, BitVec.toNat_xor, BitVec.toNat_ofNat, BitVec.toNat_ofNat, ea, eb, IntKind.wrap_i64]
  omega
 rw [e]
 omega
theorem tmod_bd {a n : Int} (ha : 0 ≤ a) (hn : 0 < n) : 0 ≤ Int.tmod a n ∧ Int.tmod a n < n :=
 ⟨Int.tmod_nonneg _ ha, Int.tmod_lt_of_pos _ hn⟩
theorem pick_tells {b : List Int} (hb : Bytes b) (hl : b.length ≤ 2000) {p n : Int} (hp : 0 ≤ p) (hp2 : p < 1000000) (hn : n < 1073741824) {k : Nat} (hk : 1 ≤ k) :
  ∃ v, spec_l6Rd_pick.f k b p n = some (v, p + 1) ∧ 0 ≤ v ∧ (v < n ∨ n < 1 ∧ v = 0) := by
 obtain ⟨k, rfl⟩ : ∃ m, k = m + 1 := ⟨k - 1, by omega⟩
 unfold spec_l6Rd_pick.f
 rw [w64 (x := p + 1) (by omega) (by omega)]
 by_cases h1 : n < 1
 ·rw [if_pos h1]
  exact ⟨0, by simp [spec_l6Rd_pick.j0], by omega, .inr ⟨h1, rfl⟩⟩
 rw [if_neg h1]
 by_cases h2 : (b.length : Int) = 0
 ·exact ⟨0, by simp [spec_l6Rd_pick.j0, h2], by omega, .inl (by omega)⟩
 have h2b : ((b.length : Int) == 0) = false := by simpa using h2
 rw [h2b]
 simp only [spec_l6Rd_pick.j0]
 rw [if_neg (by decide), Int.add_sub_cancel, w64 (x := p) (by omega) (by omega)]
 have hn0 : ¬ n = 0 := by omega
 by_cases h3 : p < (b.length : Int)
 ·rw [if_pos h3, if_pos hp, if_neg hn0]
  have hr := hb.at_ p
  rw [w64 (by omega) (by omega)]
  have := tmod_bd hr.1 (show 0 < n by omega)
  exact ⟨_, rfl, this.1, .inl this.2⟩
 ·rw [if_neg h3, if_neg h2]
  have t1 := tmod_bd hp (show 0 < (b.length : Int) by omega)
  have e1 : wrap64 (wrap64 (p * 7) + 3) = p * 7 + 3 := by rw [w64 (x := p * 7) (by omega) (by omega)]; exact w64 (by omega) (by omega)
  have t2 := tmod_bd (show 0 ≤ p * 7 + 3 by omega) (show 0 < (b.length : Int) by omega)
  have r1 := hb.at_ (Int.tmod p (b.length : Int))
  have r2 := hb.at_ (Int.tmod (p * 7 + 3) (b.length : Int))
  have q := Int.tdiv_nonneg hp (show 0 ≤ (b.length : Int) by omega)
  have q2 : Int.tdiv p (b.length : Int) ≤ p := by
   rw [Int.tdiv_eq_ediv_of_nonneg hp]
   exact Int.ediv_le_self _ hp
  rw [if_pos t1.1, if_pos t1.2, e1, if_pos t2.1, if_pos t2.2, if_neg hn0]
  generalize rd b (Int.tmod p (b.length : Int)) = u at r1 ⊢
  generalize rd b (Int.tmod (p * 7 + 3) (b.length : Int)) = v at r2 ⊢
  generalize Int.tdiv p (b.length : Int) = c at q q2 ⊢
  have e2 : wrap64 (wrap64 (wrap64 (wrap64 (wrap64 u * 131) + wrap64 (wrap64 v * 1117)) + wrap64 (p * 29)) + wrap64 (wrap64 c * 53)) = u * 131 + v * 1117 + p * 29 + c * 53 := by
   rw [w64 (x := u) (by omega) (by omega), w64 (x := v) (by omega) (by omega), w64 (x := c) (by omega) (by omega), w64 (x := u * 131) (by omega) (by omega), w64 (x := v * 1117) (by omega) (by omega), w64 (x := p * 29) (by omega) (by omega),
    w64 (x := c * 53) (by omega) (by omega), w64 (x := u * 131 + v * 1117) (by omega) (by omega), w64 (x := u * 131 + v * 1117 + p * 29) (by omega) (by omega)]
   exact w64 (by omega) (by omega)
  rw [e2]
  generalize hx : u * 131 + v * 1117 + p * 29 + c * 53 = x
  have hx0 : 0 ≤ x := by omega
  have hx1 : x < 1000000000 := by omega
  have e3 : wrap64 (Int.tdiv x 64) = x / 64 := by rw [Int.tdiv_eq_ediv_of_nonneg hx0]; exact w64 (by omega) (by omega)
  rw [e3]
  have hb3 := bits_xor hx0 (by omega) (show 0 ≤ x / 64 by omega) (by omega)
  have := tmod_bd hb3.1 (show 0 < n by omega)
  exact ⟨_, rfl, this.1, .inl this.2⟩
/-- A number at most so far from 0, or a little below it. -/
theorem big_j1 {b : List Int} (hb : Bytes b) (hl : b.length ≤ 2000) {p m x : Int} (hp : 0 ≤ p) (hp2 : p < 999990) (hm : 3 ≤ m) (hm2 : m ≤ 1152921504606846976) (hx : -3 ≤ x) (hx2 : x ≤ 1152921504606846976) {k : Nat} (hk : 3 ≤ k) :
  ∃ v p', spec_l71Big.j1 k m x b p = some (v, p') ∧ -m ≤ v ∧ v ≤ m ∧ p ≤ p' ∧ p' ≤ p + 1 := by
 obtain ⟨k, rfl⟩ : ∃ m, k = m + 1 := ⟨k - 1, by omega⟩
 simp only [spec_l71Big.j1]
 by_cases h : x < 0
 ·rw [if_pos h]; exact ⟨_, _, rfl, by omega, by omega, by omega, by omega⟩
 rw [if_neg h, w64 (x := m + 1) (by omega) (by omega), if_neg (by omega)]
 obtain ⟨v, h1, h2, h3⟩ := pick_tells hb hl hp (show p < 1000000 by omega) (show (2 : Int) < 1073741824 by omega) (k := k) (by omega)
 rw [h1]; simp only [Option.bind_some]
 have t := tmod_bd (show 0 ≤ x by omega) (show 0 < m + 1 by omega)
 rw [w64 (x := -(Int.tmod x (m + 1))) (by omega) (by omega)]
 split
 ·exact ⟨_, _, rfl, by omega, by omega, by omega, by omega⟩
 ·exact ⟨_, _, rfl, by omega, by omega, by omega, by omega⟩
theorem big_l0 {b : List Int} (hb : Bytes b) (hl : b.length ≤ 2000) {m : Int} (hm : 3 ≤ m) (hm2 : m ≤ 1152921504606846976) (d : Nat) : ∀ (k : Nat) (p i n : Int), 0 ≤ p → p + d < 999985 → 0 ≤ i → 4 - i = d → 0 ≤ n →
  (i = 0 → n = 0) → (i = 1 → n < 32768) → (i = 2 → n < 1073741824) → (i = 3 → n < 35184372088832) → (i = 4 → n < 1152921504606846976) → d + 5 < k →
  ∃ v p', spec_l71Big.l0 k m n i b p = some (v, p') ∧ -m ≤ v ∧ v ≤ m ∧ p ≤ p' ∧ p' ≤ p + d + 1 := by
 induction d with
 | zero =>
  intro k p i n hp hp2 hi hd hn h0 h1 h2 h3 h4 hk
  obtain ⟨k, rfl⟩ : ∃ m, k = m + 1 := ⟨k - 1, by omega⟩
  simp only [spec_l71Big.l0]
  rw [if_neg (by omega)]
  obtain ⟨v, p', a, b1, c, d1, e⟩ := big_j1 hb hl hp (show p < 999990 by omega) hm hm2 (show -3 ≤ n by omega) (show n ≤ _ by have := h4 (by omega); omega) (k := k) (by omega)
  exact ⟨v, p', a, b1, c, d1, by omega⟩
 | succ d ih =>
  intro k p i n hp hp2 hi hd hn h0 h1 h2 h3 h4 hk
  obtain ⟨k, rfl⟩ : ∃ m, k = m + 1 := ⟨k - 1, by omega⟩
  simp only [spec_l71Big.l0]
  rw [if_pos (by omega)]
  obtain ⟨v, q1, q2, q3⟩ := pick_tells hb hl hp (show p < 1000000 by omega) (show (32768 : Int) < 1073741824 by omega) (k := k) (by omega)
  rw [q1]; simp only [Option.bind_some]
  have hn2 : n < 35184372088832 := by
   rcases (show i = 0 ∨ i = 1 ∨ i = 2 ∨ i = 3 by omega) with e | e | e | e
   ·have := h0 e; omega
   ·have := h1 e; omega
   ·have := h2 e; omega
   ·exact h3 e
  have e : wrap64 (wrap64 (n * 32768) + v) = n * 32768 + v := by rw [w64 (x := n * 32768) (by omega) (by omega)]; exact w64 (by omega) (by omega)
  rw [e, w64 (x := i + 1) (by omega) (by omega)]
  obtain ⟨v', p', a, b1, c, d1, e⟩ := ih k (p + 1) (i + 1) (n * 32768 + v) (by omega) (by omega) (by omega) (by omega) (by omega) (by omega)
   (fun z => by have := h0 (by omega); omega) (fun z => by have := h1 (by omega); omega) (fun z => by have := h2 (by omega); omega) (fun z => by have := h3 (by omega); omega) (by omega)
  exact ⟨v', p', a, b1, c, by omega, by omega⟩
theorem big_tells {b : List Int} (hb : Bytes b) (hl : b.length ≤ 2000) {p m : Int} (hp : 0 ≤ p) (hp2 : p < 999970) (hm : 3 ≤ m) (hm2 : m ≤ 1152921504606846976) {k : Nat} (hk : 15 ≤ k) :
  ∃ v p', spec_l71Big.f k b p m = some (v, p') ∧ -m ≤ v ∧ v ≤ m ∧ p ≤ p' ∧ p' ≤ p + 8 := by
 unfold spec_l71Big.f
 obtain ⟨v, q1, q2, q3⟩ := pick_tells hb hl hp (show p < 1000000 by omega) (show (6 : Int) < 1073741824 by omega) (k := k) (by omega)
 rw [q1]; simp only [Option.bind_some]
 by_cases c0 : v = 0
 ·rw [if_pos c0]
  obtain ⟨u, r1, r2, r3⟩ := pick_tells hb hl (show 0 ≤ p + 1 by omega) (show p + 1 < 1000000 by omega) (show (7 : Int) < 1073741824 by omega) (k := k) (by omega)
  rw [r1]; simp only [Option.bind_some]
  rw [w64 (x := u - 3) (by omega) (by omega)]
  obtain ⟨v, p', a, b1, c, d1, e⟩ := big_j1 hb hl (show 0 ≤ p + 1 + 1 by omega) (show p + 1 + 1 < 999990 by omega) hm hm2 (show -3 ≤ u - 3 by omega) (by omega) (k := k) (by omega)
  exact ⟨v, p', a, b1, c, by omega, by omega⟩
 rw [if_neg c0]
 by_cases c1 : v = 1
 ·rw [if_pos c1]
  obtain ⟨u, r1, r2, r3⟩ := pick_tells hb hl (show 0 ≤ p + 1 by omega) (show p + 1 < 1000000 by omega) (show (3 : Int) < 1073741824 by omega) (k := k) (by omega)
  rw [r1]; simp only [Option.bind_some]
  rw [w64 (x := m - u) (by omega) (by omega)]
  obtain ⟨v, p', a, b1, c, d1, e⟩ := big_j1 hb hl (show 0 ≤ p + 1 + 1 by omega) (show p + 1 + 1 < 999990 by omega) hm hm2 (show -3 ≤ m - u by omega) (by omega) (k := k) (by omega)
  exact ⟨v, p', a, b1, c, by omega, by omega⟩
 rw [if_neg c1]
 by_cases c2 : v = 2
 ·rw [if_pos c2]
  obtain ⟨u, r1, r2, r3⟩ := pick_tells hb hl (show 0 ≤ p + 1 by omega) (show p + 1 < 1000000 by omega) (show (1048576 : Int) < 1073741824 by omega) (k := k) (by omega)
  rw [r1]; simp only [Option.bind_some]
  obtain ⟨v, p', a, b1, c, d1, e⟩ := big_j1 hb hl (show 0 ≤ p + 1 + 1 by omega) (show p + 1 + 1 < 999990 by omega) hm hm2 (show -3 ≤ u by omega) (by omega) (k := k) (by omega)
  exact ⟨v, p', a, b1, c, by omega, by omega⟩
 rw [if_neg c2]
 obtain ⟨v, p', a, b1, c, d1, e⟩ := big_l0 hb hl hm hm2 4 k (p + 1) 0 0 (by omega) (by omega) (by omega) (by omega) (by omega) (by omega) (by omega) (by omega) (by omega) (by omega) (by omega)
 exact ⟨v, p', a, b1, c, by omega, by omega⟩
theorem open_tells {l : List Int} (hl : Bytes l) : ∃ b, spec_l6Open.f l = some (b, 0) ∧ Bytes b ∧ b.length ≤ 2000 := by
 unfold spec_l6Open.f
 by_cases h : (l.length : Int) > 2000
 ·rw [if_pos h, if_pos (by omega)]
  exact ⟨_, rfl, fun x hx => hl x (List.mem_of_mem_take hx), by simp; omega⟩
 ·rw [if_neg h]
  exact ⟨_, rfl, hl, by omega⟩
/-! ### drawn places -/
theorem two_of {v : Int} (h : v < 2 ∨ (2 : Int) < 1 ∧ v = 0) (h0 : 0 ≤ v) (a b : Int) : 0 ≤ v ∧ v < (([a, b] : List Int).length : Int) := by simp; omega
theorem spot_tells {b : List Int} (hb : Bytes b) (hl : b.length ≤ 2000) {p : Int} (hp : 0 ≤ p) (hp2 : p < 999000) {k : Nat} (hk : 20 ≤ k) :
  ∃ u a p', spec_l71Spot.f k b p = some (u, a, p') ∧ p ≤ p' ∧ p' ≤ p + 20 := by
 unfold spec_l71Spot.f
 obtain ⟨u, p1, q1, q2, q3, q4, q5⟩ := big_tells hb hl hp (by omega) (show (3 : Int) ≤ 32400000 by omega) (by omega) (k := k) (by omega)
 rw [q1]; simp only [Option.bind_some]
 obtain ⟨a, p2, r1, r2, r3, r4, r5⟩ := big_tells hb hl (show 0 ≤ p1 by omega) (by omega) (show (3 : Int) ≤ 129599999 by omega) (by omega) (k := k) (by omega)
 rw [r1]; simp only [Option.bind_some]
 obtain ⟨v, s1, s2, s3⟩ := pick_tells hb hl (show 0 ≤ p2 by omega) (by omega) (show (24 : Int) < 1073741824 by omega) (k := k) (by omega)
 rw [s1]; simp only [Option.bind_some]
 obtain ⟨x, t1, t2, t3⟩ := pick_tells hb hl (show 0 ≤ p2 + 1 by omega) (by omega) (show (2 : Int) < 1073741824 by omega) (k := k) (by omega)
 obtain ⟨y, z1, z2, z3⟩ := pick_tells hb hl (show 0 ≤ p2 + 1 by omega) (by omega) (show (4 : Int) < 1073741824 by omega) (k := k) (by omega)
 rw [t1, z1]; simp only [Option.bind_some]
 have w (a b : Int) := two_of t3 t2 a b
 by_cases c0 : v = 0
 ·rw [if_pos c0, if_pos (w 0 0).1, if_pos (w _ _).2]; exact ⟨_, _, _, rfl, by omega, by omega⟩
 rw [if_neg c0]
 by_cases c1 : v = 1
 ·rw [if_pos c1]; exact ⟨_, _, _, rfl, by omega, by omega⟩
 rw [if_neg c1]
 by_cases c2 : v = 2
 ·rw [if_pos c2, if_pos (w 0 0).1, if_pos (w _ _).2]; exact ⟨_, _, _, rfl, by omega, by omega⟩
 rw [if_neg c2]
 by_cases c3 : v = 3
 ·rw [if_pos c3, if_pos (w 0 0).1, if_pos (w _ _).2]; exact ⟨_, _, _, rfl, by omega, by omega⟩
 rw [if_neg c3]
 by_cases c4 : v = 4
 ·rw [if_pos c4]; exact ⟨_, _, _, rfl, by omega, by omega⟩
 rw [if_neg c4]
 by_cases c5 : v = 5
 ·rw [if_pos c5]; exact ⟨_, _, _, rfl, by omega, by omega⟩
 rw [if_neg c5]
 by_cases c6 : v = 6
 ·rw [if_pos c6]; exact ⟨_, _, _, rfl, by omega, by omega⟩
 rw [if_neg c6]
 exact ⟨_, _, _, rfl, by omega, by omega⟩
theorem spots_tells {b : List Int} (hb : Bytes b) (hl : b.length ≤ 2000) {p : Int} (hp : 0 ≤ p) (hp2 : p < 998000) {k : Nat} (hk : 20 ≤ k) :
  ∃ pu pa qu qa p', spec_l71Spots.f k b p = some (pu, pa, qu, qa, p') ∧ p ≤ p' ∧ p' ≤ p + 50 := by
 unfold spec_l71Spots.f
 obtain ⟨pu, pa, p1, q1, q2, q3⟩ := spot_tells hb hl hp (by omega) hk
 rw [q1]; simp only [Option.bind_some]
 obtain ⟨qu, qa, p2, r1, r2, r3⟩ := spot_tells hb hl (show 0 ≤ p1 by omega) (by omega) hk
 rw [r1]; simp only [Option.bind_some]
 obtain ⟨v, s1, s2, s3⟩ := pick_tells hb hl (show 0 ≤ p2 by omega) (by omega) (show (8 : Int) < 1073741824 by omega) (k := k) (by omega)
 rw [s1]; simp only [Option.bind_some]
 obtain ⟨x, t1, t2, t3⟩ := pick_tells hb hl (show 0 ≤ p2 + 1 by omega) (by omega) (show (129600000 : Int) < 1073741824 by omega) (k := k) (by omega)
 rw [t1, (SpotFar_is pu pa).2]; simp only [Option.bind_some]
 by_cases c0 : v = 0
 ·rw [if_pos c0]; exact ⟨_, _, _, _, _, rfl, by omega, by omega⟩
 rw [if_neg c0]
 by_cases c1 : v = 1
 ·rw [if_pos c1]; exact ⟨_, _, _, _, _, rfl, by omega, by omega⟩
 rw [if_neg c1]
 by_cases c2 : v = 2
 ·rw [if_pos c2]
  by_cases c : (farR pu pa).2.2 = true
  ·rw [if_pos c]; exact ⟨_, _, _, _, _, rfl, by omega, by omega⟩
  ·rw [if_neg c]; exact ⟨_, _, _, _, _, rfl, by omega, by omega⟩
 rw [if_neg c2]
 by_cases c3 : v = 3
 ·rw [if_pos c3]; exact ⟨_, _, _, _, _, rfl, by omega, by omega⟩
 rw [if_neg c3]
 exact ⟨_, _, _, _, _, rfl, by omega, by omega⟩

end Go.Proofs.Ytmcippkpgmehdaa.M

import Derived.Test.YtlodpfddimeffaaP6
import Derived.Test.YtlodpfddimeffaaDa
import Derived.Test.YtlodpfddimeffaaDb
import Derived.Test.YtlodpfddimeffaaDg
namespace Go.Proofs.Ytlodpfddimeffaa.M
open Go.RowKit Go.Proofs.YtlodpfddimeffaaW.PrintWords Go.Proofs.YtlodpfddimeffaaW.PrintLast Go.Proofs.YtlodpfddimeffaaW.PrintMore
attribute [local go_sem] max2_int min2_int max_two min_two max_three min_three max_four min_four
attribute [local go_sem high] eqA31
attribute [local go_sem] fld31_0 fld31_1 fld25_0 fld25_1 fld25_2 fld25_3
set_option linter.unusedVariables false
set_option linter.unusedSimpArgs false
theorem k25_openF {W : World} {ok : Nat → Prop} {x : S25} {cs : List Value} (h : Kd.FK k25 W ok x cs) : ∃ A3 c3, cs = [.int .i64 x.f0, .int .i64 x.f1, .int .i64 x.f2, .slice A3 x.f3.length c3] ∧ x.f3.length ≤ c3 ∧ Kd.F k25 W ok A3 x.f3.length x.f3 := by
 obtain ⟨A3, c3, rfl, l3, _⟩ := k25_open (Kd.FK_now h)
 exact ⟨A3, c3, rfl, l3, (fun W' hW => by obtain ⟨A3_, c3_, he, l3_, g3_⟩ := k25_open (h W' hW); injection (Option.some.inj (show some (Value.slice A3 x.f3.length c3) = some (Value.slice A3_ x.f3.length c3_) from congrArg (fun l => l[3]?) he)) with ha_ _ _; rw [ha_]; exact g3_)⟩
/-- A list of bytes. -/
def Bytes (l : List Int) : Prop := ∀ x ∈ l, 0 ≤ x ∧ x < 256
theorem bytes_of {l : List Int} (h : ∀ x ∈ l, (Lit.int .u8 x).wf = true) : Bytes l := by
 intro x hx
 have := h x hx
 simp [Lit.wf, IntKind.min, IntKind.max, IntKind.bits, IntKind.signed] at this
 omega
theorem Bytes.at_ {l : List Int} (h : Bytes l) (i : Int) : 0 ≤ rd l i ∧ rd l i < 256 := by
 unfold rd
 rw [List.getD_eq_getElem?_getD]
 rcases Nat.lt_or_ge i.toNat l.length with h1 | h1
 ·rw [List.getElem?_eq_getElem h1]
  exact h _ (List.getElem_mem h1)
 ·rw [List.getElem?_eq_none h1]; simp
theorem bits_xor {a b : Int} (ha : 0 ≤ a) (ha2 : a < 1099511627776) (hb : 0 ≤ b) (hb2 : b < 1099511627776) : 0 ≤ Go.bits .xor .i64 a b ∧ Go.bits .xor .i64 a b < 1099511627776 := by
 obtain ⟨a, rfl⟩ := Int.eq_ofNat_of_zero_le ha
 obtain ⟨b, rfl⟩ := Int.eq_ofNat_of_zero_le hb
 have h := Nat.xor_lt_two_pow (n := 40) (x := a) (y := b) (by omega) (by omega)
 have ea : a % 2 ^ 64 = a := Nat.mod_eq_of_lt (by omega)
 have eb : b % 2 ^ 64 = b := Nat.mod_eq_of_lt (by omega)
 have e : Go.bits .xor .i64 (a : Int) (b : Int) = ((a ^^^ b : Nat) : Int) := by
  show IntKind.i64.wrap ((BitVec.ofInt 64 (a : Int) ^^^ BitVec.ofInt 64 (b : Int)).toNat : Nat) = _
  rw [BitVec.ofInt_natCast, BitVec.ofInt_natCast, BitVec.toNat_xor, BitVec.toNat_ofNat, BitVec.toNat_ofNat, ea, eb, IntKind.wrap_i64]
  omega
 rw [e]
 omega
theorem tmod_bd {a n : Int} (ha : 0 ≤ a) (hn : 0 < n) : 0 ≤ Int.tmod a n ∧ Int.tmod a n < n :=
 ⟨Int.tmod_nonneg _ ha, Int.tmod_lt_of_pos _ hn⟩
theorem pick_tells {b : List Int} (hb : Bytes b) (hl : b.length ≤ 2000) {p n : Int} (hp : 0 ≤ p) (hp2 : p < 1000000) (hn : n < 1073741824) {k : Nat} (hk : 1 ≤ k) :
  ∃ v, spec_l6Rd_pick.f k b p n = some (v, p + 1) ∧ 0 ≤ v ∧ (v < n ∨ n < 1 ∧ v = 0) := by
 obtain ⟨k, rfl⟩ : ∃ m, k = m + 1 := ⟨k - 1, by omega⟩
 unfold spec_l6Rd_pick.f
 rw [w64 (x := p + 1) (by omega) (by omega)]
 by_cases h1 : n < 1
 ·rw [if_pos h1]
  exact ⟨0, by simp [spec_l6Rd_pick.j0], by omega, .inr ⟨h1, rfl⟩⟩
 rw [if_neg h1]
 by_cases h2 : (b.length : Int) = 0
 ·exact ⟨0, by simp [spec_l6Rd_pick.j0, h2], by omega, .inl (by omega)⟩
 have h2b : ((b.length : Int) == 0) = false := by simpa using h2
 rw [h2b]
 simp only [spec_l6Rd_pick.j0]
 rw [if_neg (by decide), Int.add_sub_cancel, w64 (x := p) (by omega) (by omega)]
 have hn0 : ¬ n = 0 := by omega
 by_cases h3 : p < (b.length : Int)
 ·rw [if_pos h3, if_pos hp, if_neg hn0]
  have hr := hb.at_ p
  rw [w64 (by omega) (by omega)]
  have := tmod_bd hr.1 (show 0 < n by omega)
  exact ⟨_, rfl, this.1, .inl this.2⟩
 ·rw [if_neg h3, if_neg h2]
  have t1 := tmod_bd hp (show 0 < (b.length : Int) by omega)
  have e1 : wrap64 (wrap64 (p * 7) + 3) = p * 7 + 3 := by rw [w64 (x := p * 7) (by omega) (by omega)]; exact w64 (by omega) (by omega)
  have t2 := tmod_bd (show 0 ≤ p * 7 + 3 by omega) (show 0 < (b.length : Int) by omega)
  have r1 := hb.at_ (Int.tmod p (b.length : Int))
  have r2 := hb.at_ (Int.tmod (p * 7 + 3) (b.length : Int))
  have q := Int.tdiv_nonneg hp (show 0 ≤ (b.length : Int) by omega)
  have q2 : Int.tdiv p (b.length : Int) ≤ p := by
   rw [Int.tdiv_eq_ediv_of_nonneg hp]
   exact Int.ediv_le_self _ hp
  rw [if_pos t1.1, if_pos t1.2, e1, if_pos t2.1, if_pos t2.2, if_neg hn0]
  generalize rd b (Int.tmod p (b.length : Int)) = u at r1 ⊢
  generalize rd b (Int.tmod (p * 7 + 3) (b.length : Int)) = v at r2 ⊢
  generalize Int.tdiv p (b.length : Int) = c at q q2 ⊢
  have e2 : wrap64 (wrap64 (wrap64 (wrap64 (wrap64 u * 131) + wrap64 (wrap64 v * 1117)) + wrap64 (p * 29)) + wrap64 (wrap64 c * 53)) = u * 131 + v * 1117 + p * 29 + c * 53 := by
   rw [w64 (x := u) (by omega) (by omega), w64 (x := v) (by omega) (by omega), w64 (x := c) (by omega) (by omega), w64 (x := u * 131) (by omega) (by omega), w64 (x := v * 1117) (by omega) (by omega), w64 (x := p * 29) (by omega) (by omega),
    w64 (x := c * 53) (by omega) (by omega), w64 (x := u * 131 + v * 1117) (by omega) (by omega), w64 (x := u * 131 + v * 1117 + p * 29) (by omega) (by omega)]
   exact w64 (by omega) (by omega)
  rw [e2]
  generalize hx : u * 131 + v * 1117 + p * 29 + c * 53 = x
  have hx0 : 0 ≤ x := by omega
  have hx1 : x < 1000000000 := by omega
  have e3 : wrap64 (Int.tdiv x 64) = x / 64 := by rw [Int.tdiv_eq_ediv_of_nonneg hx0]; exact w64 (by omega) (by omega)
  rw [e3]
  have hb3 := bits_xor hx0 (by omega) (show 0 ≤ x / 64 by omega) (by omega)
  have := tmod_bd hb3.1 (show 0 < n by omega)
  exact ⟨_, rfl, this.1, .inl this.2⟩
/-- A number at most so far from 0, or a little below it. -/
theorem big_j1 {b : List Int} (hb : Bytes b) (hl : b.length ≤ 2000) {p m x : Int} (hp : 0 ≤ p) (hp2 : p < 999990) (hm : 3 ≤ m) (hm2 : m ≤ 1152921504606846976) (hx : -3 ≤ x) (hx2 : x ≤ 1152921504606846976) {k : Nat} (hk : 3 ≤ k) :
  ∃ v p', spec_l71Big.j1 k m x b p = some (v, p') ∧ -m ≤ v ∧ v ≤ m ∧ p ≤ p' ∧ p' ≤ p + 1 := by
 obtain ⟨k, rfl⟩ : ∃ m, k = m + 1 := ⟨k - 1, by omega⟩
 simp only [spec_l71Big.j1]
 by_cases h : x < 0
 ·rw [if_pos h]; exact ⟨_, _, rfl, by omega, by omega, by omega, by omega⟩
 rw [if_neg h, w64 (x := m + 1) (by omega) (by omega), if_neg (by omega)]
 obtain ⟨v, h1, h2, h3⟩ := pick_tells hb hl hp (show p < 1000000 by omega) (show (2 : Int) < 1073741824 by omega) (k := k) (by omega)
 rw [h1]; simp only [Option.bind_some]
 have t := tmod_bd (show 0 ≤ x by omega) (show 0 < m + 1 by omega)
 rw [w64 (x := -(Int.tmod x (m + 1))) (by omega) (by omega)]
 split
 ·exact ⟨_, _, rfl, by omega, by omega, by omega, by omega⟩
 ·exact ⟨_, _, rfl, by omega, by omega, by omega, by omega⟩
theorem big_l0 {b : List Int} (hb : Bytes b) (hl : b.length ≤ 2000) {m : Int} (hm : 3 ≤ m) (hm2 : m ≤ 1152921504606846976) (d : Nat) : ∀ (k : Nat) (p i n : Int), 0 ≤ p → p + d < 999985 → 0 ≤ i → 4 - i = d → 0 ≤ n →
  (i = 0 → n = 0) → (i = 1 → n < 32768) → (i = 2 → n < 1073741824) → (i = 3 → n < 35184372088832) → (i = 4 → n < 1152921504606846976) → d + 5 < k →
  ∃ v p', spec_l71Big.l0 k m n i b p = some (v, p') ∧ -m ≤ v ∧ v ≤ m ∧ p ≤ p' ∧ p' ≤ p + d + 1 := by
 induction d with
 | zero =>
  intro k p i n hp hp2 hi hd hn h0 h1 h2 h3 h4 hk
  obtain ⟨k, rfl⟩ : ∃ m, k = m + 1 := ⟨k - 1, by omega⟩
  simp only [spec_l71Big.l0]
  rw [if_neg (by omega)]
  obtain ⟨v, p', a, b1, c, d1, e⟩ := big_j1 hb hl hp (show p < 999990 by omega) hm hm2 (show -3 ≤ n by omega) (show n ≤ _ by have := h4 (by omega); omega) (k := k) (by omega)
  exact ⟨v, p', a, b1, c, d1, by omega⟩
 | succ d ih =>
  intro k p i n hp hp2 hi hd hn h0 h1 h2 h3 h4 hk
  obtain ⟨k, rfl⟩ : ∃ m, k = m + 1 := ⟨k - 1, by omega⟩
  simp only [spec_l71Big.l0]
  rw [if_pos (by omega)]
  obtain ⟨v, q1, q2, q3⟩ := pick_tells hb hl hp (show p < 1000000 by omega) (show (32768 : Int) < 1073741824 by omega) (k := k) (by omega)
  rw [q1]; simp only [Option.bind_some]
  have hn2 : n < 35184372088832 := by
   rcases (show i = 0 ∨ i = 1 ∨ i = 2 ∨ i = 3 by omega) with e | e | e | e
   ·have := h0 e; omega
   ·have := h1 e; omega
   ·have := h2 e; omega
   ·exact h3 e
  have e : wrap64 (wrap64 (n * 32768) + v) = n * 32768 + v := by rw [w64 (x := n * 32768) (by omega) (by omega)]; exact w64 (by omega) (by omega)
  rw [e, w64 (x := i + 1) (by omega) (by omega)]
  obtain ⟨v', p', a, b1, c, d1, e⟩ := ih k (p + 1) (i + 1) (n * 32768 + v) (by omega) (by omega) (by omega) (by omega) (by omega) (by omega)
   (fun z => by have := h0 (by omega); omega) (fun z => by have := h1 (by omega); omega) (fun z => by have := h2 (by omega); omega) (fun z => by have := h3 (by omega); omega) (by omega)
  exact ⟨v', p', a, b1, c, by omega, by omega⟩
theorem big_tells {b : List Int} (hb : Bytes b) (hl : b.length ≤ 2000) {p m : Int} (hp : 0 ≤ p) (hp2 : p < 999970) (hm : 3 ≤ m) (hm2 : m ≤ 1152921504606846976) {k : Nat} (hk : 15 ≤ k) :
  ∃ v p', spec_l71Big.f k b p m = some (v, p') ∧ -m ≤ v ∧ v ≤ m ∧ p ≤ p' ∧ p' ≤ p + 8 := by
 unfold spec_l71Big.f
 obtain ⟨v, q1, q2, q3⟩ := pick_tells hb hl hp (show p < 1000000 by omega) (show (6 : Int) < 1073741824 by omega) (k := k) (by omega)
 rw [q1]; simp only [Option.bind_some]
 by_cases c0 : v = 0
 ·rw [if_pos c0]
  obtain ⟨u, r1, r2, r3⟩ := pick_tells hb hl (show 0 ≤ p + 1 by omega) (show p + 1 < 1000000 by omega) (show (7 : Int) < 1073741824 by omega) (k := k) (by omega)
  rw [r1]; simp only [Option.bind_some]
  rw [w64 (x := u - 3) (by omega) (by omega)]
  obtain ⟨v, p', a, b1, c, d1, e⟩ := big_j1 hb hl (show 0 ≤ p + 1 + 1 by omega) (show p + 1 + 1 < 999990 by omega) hm hm2 (show -3 ≤ u - 3 by omega) (by omega) (k := k) (by omega)
  exact ⟨v, p', a, b1, c, by omega, by omega⟩
 rw [if_neg c0]
 by_cases c1 : v = 1
 ·rw [if_pos c1]
  obtain ⟨u, r1, r2, r3⟩ := pick_tells hb hl (show 0 ≤ p + 1 by omega) (show p + 1 < 1000000 by omega) (show (3 : Int) < 1073741824 by omega) (k := k) (by omega)
  rw [r1]; simp only [Option.bind_some]
  rw [w64 (x := m - u) (by omega) (by omega)]
  obtain ⟨v, p', a, b1, c, d1, e⟩ := big_j1 hb hl (show 0 ≤ p + 1 + 1 by omega) (show p + 1 + 1 < 999990 by omega) hm hm2 (show -3 ≤ m - u by omega) (by omega) (k := k) (by omega)
  exact ⟨v, p', a, b1, c, by omega, by omega⟩
 rw [if_neg c1]
 by_cases c2 : v = 2
 ·rw [if_pos c2]
  obtain ⟨u, r1, r2, r3⟩ := pick_tells hb hl (show 0 ≤ p + 1 by omega) (show p + 1 < 1000000 by omega) (show (1048576 : Int) < 1073741824 by omega) (k := k) (by omega)
  rw [r1]; simp only [Option.bind_some]
  obtain ⟨v, p', a, b1, c, d1, e⟩ := big_j1 hb hl (show 0 ≤ p + 1 + 1 by omega) (show p + 1 + 1 < 999990 by omega) hm hm2 (show -3 ≤ u by omega) (by omega) (k := k) (by omega)
  exact ⟨v, p', a, b1, c, by omega, by omega⟩
 rw [if_neg c2]
 obtain ⟨v, p', a, b1, c, d1, e⟩ := big_l0 hb hl hm hm2 4 k (p + 1) 0 0 (by omega) (by omega) (by omega) (by omega) (by omega) (by omega) (by omega) (by omega) (by omega) (by omega) (by omega)
 exact ⟨v, p', a, b1, c, by omega, by omega⟩
theorem open_tells {l : List Int} (hl : Bytes l) : ∃ b, spec_l6Open.f l = some (b, 0) ∧ Bytes b ∧ b.length ≤ 2000 := by
 unfold spec_l6Open.f
 by_cases h : (l.length : Int) > 2000
 ·rw [if_pos h, if_pos (by omega)]
  exact ⟨_, rfl, fun x hx => hl x (List.mem_of_mem_take hx), by simp; omega⟩
 ·rw [if_neg h]
  exact ⟨_, rfl, hl, by omega⟩
/-! ### drawn: what is reckoned -/
def capN (d : Nat) : Nat := 2 ^ (d + 1)
theorem capN_succ (d : Nat) : capN (d + 1) = 2 * capN d := by unfold capN; rw [Nat.pow_succ]; omega
theorem capN_pos (d : Nat) : 2 ≤ capN d := by
 induction d with
 | zero => decide
 | succ d ih => rw [capN_succ]; omega
theorem leaf_tells {b : List Int} (hb : Bytes b) (hl : b.length ≤ 2000) (c : Bool) {p : Int} (hp : 0 ≤ p) (hp2 : p < 999000) {k : Nat} (hk : 20 ≤ k) :
  ∃ f0 f1 f2 l p', spec_l71Expr.j1 k c b p = some (f0, f1, f2, l, p') ∧ nodes ⟨f0, f1, f2, l⟩ ≤ 1 ∧ p ≤ p' ∧ p' ≤ p + 8 := by
 obtain ⟨k, rfl⟩ : ∃ q, k = q + 1 := ⟨k - 1, by omega⟩
 rw [spec_l71Expr.j1]
 cases c with
 | true =>
  rw [if_pos rfl]
  obtain ⟨v, p', q1, q2, q3, q4, q5⟩ := big_tells hb hl hp (by omega) (show (3 : Int) ≤ 129600000 by omega) (by omega) (k := k) (by omega)
  rw [q1]; simp only [Option.bind_some]
  exact ⟨_, _, _, _, _, rfl, by rw [nodes, nodesL]; omega, by omega, by omega⟩
 | false =>
  rw [if_neg (by decide)]
  obtain ⟨v, q1, q2, q3⟩ := pick_tells hb hl hp (by omega) (show (20 : Int) < 1073741824 by omega) (k := k) (by omega)
  rw [q1]; simp only [Option.bind_some]
  obtain ⟨x, r1, r2, r3⟩ := pick_tells hb hl (show 0 ≤ p + 1 by omega) (by omega) (show wrap64 (wrap64 (2 * wrap64 (1 + v)) + 1) < 1073741824 by rw [w64 (x := 1 + v) (by omega) (by omega), w64 (x := 2 * (1 + v)) (by omega) (by omega), w64 (by omega) (by omega)]; omega) (k := k) (by omega)
  rw [r1]; simp only [Option.bind_some]
  exact ⟨_, _, _, _, _, rfl, by rw [nodes, nodesL]; omega, by omega, by omega⟩
theorem kinds_of {v : Int} (h0 : 0 ≤ v) (h1 : v < 7) : (0 ≤ v ∧ v < (([5, 6, 7, 7, 8, 2, 3] : List Int).length : Int)) ∧ (kidsN (rd [5, 6, 7, 7, 8, 2, 3] v) = 1 ∨ kidsN (rd [5, 6, 7, 7, 8, 2, 3] v) = 2) := by
 refine ⟨⟨h0, by simp; omega⟩, ?_⟩
 have : v = 0 ∨ v = 1 ∨ v = 2 ∨ v = 3 ∨ v = 4 ∨ v = 5 ∨ v = 6 := by omega
 rcases this with h | h | h | h | h | h | h <;> subst h <;> decide
theorem kidsLoop_tells {b : List Int} (hb : Bytes b) (hl : b.length ≤ 2000) (ex : Bool) (d : Nat) (deep : Int) (hd0 : 0 ≤ deep) (hd1 : deep ≤ 10)
  (ih : ∀ (p : Int) (k : Nat), 0 ≤ p → p + 20 * capN d < 990000 → 40 + 10 * d ≤ k → ∃ f0 f1 f2 l p', spec_l71Expr.f k b p (deep - 1) ex = some (f0, f1, f2, l, p') ∧ nodes ⟨f0, f1, f2, l⟩ + 1 ≤ capN d ∧ p ≤ p' ∧ p' + 4 ≤ p + 20 * capN d)
  (kd : Int) (hkd : kidsN kd = 1 ∨ kidsN kd = 2) {p : Int} (hp : 0 ≤ p) (hp2 : p + 40 * capN d < 990003) {k : Nat} (hk : 43 + 10 * d ≤ k) :
  ∃ l p', spec_l71Expr.l0 k deep ex kd 0 b p kd 0 0 [] = some (kd, 0, 0, l, p') ∧ nodesL l + 2 ≤ 2 * capN d ∧ p ≤ p' ∧ p' + 8 ≤ p + 40 * capN d ∨ False := by
 obtain ⟨k, rfl⟩ : ∃ q, k = q + 1 + 1 + 1 := ⟨k - 3, by omega⟩
 have cp := capN_pos d
 rw [spec_l71Expr.l0, skidsOf_is]
 simp only [Option.bind_some]
 rw [if_pos (by omega), w64 (x := deep - 1) (by omega) (by omega)]
 obtain ⟨f0, f1, f2, l, p1, q1, q2, q3, q4⟩ := ih p (k + 1 + 1) hp (by omega) (by omega)
 rw [q1]; simp only [Option.bind_some]
 have w1 : wrap64 (0 + 1) = 1 := w64 (x := 0 + 1) (by omega) (by omega)
 have w2 : wrap64 (1 + 1) = 2 := w64 (x := 1 + 1) (by omega) (by omega)
 rw [if_pos (by simp), w1, spec_l71Expr.l0, skidsOf_is]
 simp only [Option.bind_some]
 rcases hkd with h | h
 ·rw [h, if_neg (by decide)]
  exact ⟨_, _, .inl ⟨rfl, by simp only [List.nil_append]; rw [nodesL, nodesL]; omega, by omega, by omega⟩⟩
 ·rw [h, if_pos (by decide), w64 (x := deep - 1) (by omega) (by omega)]
  obtain ⟨g0, g1, g2, m, p2, r1, r2, r3, r4⟩ := ih p1 (k + 1) (by omega) (by omega) (by omega)
  rw [r1]; simp only [Option.bind_some]
  rw [if_pos (by simp), w2, spec_l71Expr.l0, skidsOf_is]
  simp only [Option.bind_some]
  rw [h, if_neg (by decide)]
  exact ⟨_, _, .inl ⟨rfl, by simp only [List.nil_append, List.cons_append]; rw [nodesL, nodesL, nodesL]; omega, by omega, by omega⟩⟩
theorem expr_tells {b : List Int} (hb : Bytes b) (hl : b.length ≤ 2000) (ex : Bool) : ∀ (d : Nat) (deep p : Int) (k : Nat), deep = d → d ≤ 10 → 0 ≤ p → p + 20 * capN d < 990000 → 40 + 10 * d ≤ k →
  ∃ f0 f1 f2 l p', spec_l71Expr.f k b p deep ex = some (f0, f1, f2, l, p') ∧ nodes ⟨f0, f1, f2, l⟩ + 1 ≤ capN d ∧ p ≤ p' ∧ p' + 4 ≤ p + 20 * capN d := by
 intro d
 have leaf : ∀ (d : Nat) (deep p : Int) (k : Nat) (q : Int), 0 ≤ q → q < 995000 → p ≤ q → q ≤ p + 1 → 30 ≤ k → ∃ f0 f1 f2 l p', spec_l71Expr.j0 k deep ex true b q = some (f0, f1, f2, l, p') ∧ nodes ⟨f0, f1, f2, l⟩ + 1 ≤ capN d ∧ p ≤ p' ∧ p' + 4 ≤ p + 20 * capN d := by
  intro d deep p k q h1 h2 h3 h4 h5
  obtain ⟨k, rfl⟩ : ∃ q, k = q + 1 := ⟨k - 1, by omega⟩
  have cp := capN_pos d
  rw [spec_l71Expr.j0, if_pos rfl]
  cases ex with
  | true =>
   rw [if_pos rfl]
   obtain ⟨f0, f1, f2, l, p', a1, a2, a3, a4⟩ := leaf_tells hb hl false h1 (by omega) (k := k) (by omega)
   exact ⟨_, _, _, _, _, a1, by omega, by omega, by omega⟩
  | false =>
   rw [if_neg (by decide)]
   obtain ⟨v, s1, s2, s3⟩ := pick_tells hb hl h1 (by omega) (show (4 : Int) < 1073741824 by omega) (k := k) (by omega)
   rw [s1]; simp only [Option.bind_some]
   obtain ⟨f0, f1, f2, l, p', a1, a2, a3, a4⟩ := leaf_tells hb hl (v == 0) (show 0 ≤ q + 1 by omega) (by omega) (k := k) (by omega)
   exact ⟨_, _, _, _, _, a1, by omega, by omega, by omega⟩
 induction d with
 | zero =>
  intro deep p k hd hd2 hp hp2 hk
  obtain ⟨k, rfl⟩ : ∃ q, k = q + 1 := ⟨k - 1, by omega⟩
  rw [spec_l71Expr.f, if_pos (by omega)]
  exact leaf 0 deep p k p hp (by omega) (by omega) (by omega) (by omega)
 | succ d ih =>
  intro deep p k hd hd2 hp hp2 hk
  obtain ⟨k, rfl⟩ : ∃ q, k = q + 1 := ⟨k - 1, by omega⟩
  have cs := capN_succ d
  have cp := capN_pos d
  rw [spec_l71Expr.f]
  by_cases c : deep < 2
  ·rw [if_pos c]
   exact leaf (d + 1) deep p k p hp (by omega) (by omega) (by omega) (by omega)
  ·rw [if_neg c]
   obtain ⟨v, s1, s2, s3⟩ := pick_tells hb hl hp (by omega) (show (4 : Int) < 1073741824 by omega) (k := k) (by omega)
   rw [s1]; simp only [Option.bind_some]
   by_cases v0 : v = 0
   ·have e : (v == 0) = true := by simp [v0]
    rw [e]
    exact leaf (d + 1) deep p k (p + 1) (by omega) (by omega) (by omega) (by omega) (by omega)
   ·have e : (v == 0) = false := by simp [v0]
    obtain ⟨k, rfl⟩ : ∃ q, k = q + 1 + 1 + 1 := ⟨k - 3, by omega⟩
    rw [e, spec_l71Expr.j0, if_neg (by decide)]
    simp only [Option.bind_some]
    obtain ⟨x, t1, t2, t3⟩ := pick_tells hb hl (show 0 ≤ p + 1 by omega) (by omega) (show (7 : Int) < 1073741824 by omega) (k := k + 1 + 1) (by omega)
    rw [t1]; simp only [Option.bind_some]
    obtain ⟨n1, n2⟩ := kinds_of t2 (by omega)
    rw [if_pos n1.1, if_pos n1.2]
    generalize rd [5, 6, 7, 7, 8, 2, 3] x = kd at *
    have loop : ∀ kd : Int, (kidsN kd = 1 ∨ kidsN kd = 2) → ∃ f0 f1 f2 l p', spec_l71Expr.j3 (k + 1) deep ex kd b (p + 1 + 1) = some (f0, f1, f2, l, p') ∧ nodes ⟨f0, f1, f2, l⟩ + 1 ≤ capN (d + 1) ∧ p ≤ p' ∧ p' + 4 ≤ p + 20 * capN (d + 1) := by
     intro kd hkd
     rw [spec_l71Expr.j3]
     obtain ⟨l, p', h | h⟩ := kidsLoop_tells hb hl ex d deep (by omega) (by omega) (fun p k h1 h2 h3 => ih (deep - 1) p k (by omega) (by omega) h1 h2 h3) kd hkd (show 0 ≤ p + 1 + 1 by omega) (by omega) (k := k) (by omega)
     ·exact ⟨_, _, _, _, _, h.1, by rw [nodes]; omega, by omega, by omega⟩
     ·cases h
    cases ex with
    | true =>
     rw [if_pos rfl, spec_l71Expr.j2]
     by_cases z : kd = 3
     ·have e : (kd == 3) = true := by simp [z]
      rw [e, if_pos rfl]
      exact loop 7 (.inr (by decide))
     ·have e : (kd == 3) = false := by simp [z]
      rw [e, if_neg (by decide)]
      exact loop kd n2
    | false =>
     rw [if_neg (by decide), spec_l71Expr.j2, if_neg (by decide)]
     exact loop kd n2
theorem bentEnd_tells {b : List Int} (hb : Bytes b) (hl : b.length ≤ 2000) (f0 f1 f2 : Int) (l : List S25) (hn : nodes ⟨f0, f1, f2, l⟩ ≤ 31) {p : Int} (hp : 0 ≤ p) (hp2 : p < 999000) {k : Nat} (hk : 10 ≤ k) :
  ∃ g0 g1 g2 m p', spec_l71Bent.j2 k b p f0 f1 f2 l = some (g0, g1, g2, m, p') ∧ nodes ⟨g0, g1, g2, m⟩ ≤ 63 ∧ p ≤ p' ∧ p' ≤ p + 2 := by
 obtain ⟨k, rfl⟩ : ∃ q, k = q + 1 := ⟨k - 1, by omega⟩
 rw [spec_l71Bent.j2]
 have hn2 := hn
 rw [nodes] at hn2
 obtain ⟨v, s1, s2, s3⟩ := pick_tells hb hl hp (by omega) (show (24 : Int) < 1073741824 by omega) (k := k) (by omega)
 rw [s1]; simp only [Option.bind_some]
 by_cases c0 : v = 0
 ·rw [if_pos c0]
  obtain ⟨x, t1, t2, t3⟩ := pick_tells hb hl (show 0 ≤ p + 1 by omega) (by omega) (show (11 : Int) < 1073741824 by omega) (k := k) (by omega)
  rw [t1]; simp only [Option.bind_some]
  exact ⟨_, _, _, _, _, rfl, by rw [nodes]; omega, by omega, by omega⟩
 rw [if_neg c0]
 by_cases c1 : v = 1
 ·rw [if_pos c1]
  obtain ⟨x, t1, t2, t3⟩ := pick_tells hb hl (show 0 ≤ p + 1 by omega) (by omega) (show (3 : Int) < 1073741824 by omega) (k := k) (by omega)
  rw [t1]; simp only [Option.bind_some]
  rw [if_pos t2, if_pos (by simp; omega)]
  exact ⟨_, _, _, _, _, rfl, by rw [nodes]; omega, by omega, by omega⟩
 rw [if_neg c1]
 by_cases c2 : v = 2
 ·rw [if_pos c2]
  exact ⟨_, _, _, _, _, rfl, by rw [nodes, nodesL, nodesL, nodesL]; omega, by omega, by omega⟩
 rw [if_neg c2]
 have app : ∀ (l : List S25) (x : S25), nodesL (l ++ [x]) = nodesL l + nodes x := by
  intro l x
  induction l with
  | nil => simp only [List.nil_append, nodesL]; omega
  | cons y l il => rw [List.cons_append, nodesL, nodesL, il]; omega
 have len : ∀ l : List S25, l.length ≤ nodesL l := by
  intro l
  induction l with
  | nil => simp
  | cons y l il => rw [nodesL]; have := nodes_pos y; simp; omega
 have ll := len l
 by_cases c3 : v = 3
 ·rw [if_pos c3, if_pos (by omega)]
  exact ⟨_, _, _, _, _, rfl, by rw [nodes, app, nodes, nodesL]; omega, by omega, by omega⟩
 ·rw [if_neg c3]
  exact ⟨_, _, _, _, _, rfl, by omega, by omega, by omega⟩
theorem bentLoop_tells {b : List Int} (hb : Bytes b) (hl : b.length ≤ 2000) (ex : Bool) (d : Nat) : ∀ (i p f0 f1 f2 : Int) (l : List S25) (k : Nat), nodes ⟨f0, f1, f2, l⟩ ≤ 31 → 0 ≤ i → 4 - i ≤ d → 0 ≤ p → p + 700 * (d : Int) < 900000 → 1200 + 10 * d ≤ k →
  ∃ g0 g1 g2 m p', spec_l71Bent.l0 k ex i b p f0 f1 f2 l = some (g0, g1, g2, m, p') ∧ nodes ⟨g0, g1, g2, m⟩ ≤ 63 ∧ p ≤ p' ∧ p' ≤ p + 700 * d + 10 := by
 have cap4 : capN 4 = 32 := by decide
 have mono : ∀ d : Nat, d ≤ 4 → capN d ≤ 32 := by
  intro d h
  have : d = 0 ∨ d = 1 ∨ d = 2 ∨ d = 3 ∨ d = 4 := by omega
  rcases this with h | h | h | h | h <;> subst h <;> decide
 induction d with
 | zero =>
  intro i p f0 f1 f2 l k hn hi hd hp hp2 hk
  obtain ⟨k, rfl⟩ : ∃ q, k = q + 1 + 1 := ⟨k - 2, by omega⟩
  rw [spec_l71Bent.l0, if_neg (by omega), spec_l71Bent.j1, if_neg (by decide)]
  obtain ⟨g0, g1, g2, m, p', a1, a2, a3, a4⟩ := bentEnd_tells hb hl f0 f1 f2 l hn hp (by omega) (k := k) (by omega)
  exact ⟨_, _, _, _, _, a1, a2, a3, by omega⟩
 | succ d ih =>
  intro i p f0 f1 f2 l k hn hi hd hp hp2 hk
  obtain ⟨k, rfl⟩ : ∃ q, k = q + 1 + 1 := ⟨k - 2, by omega⟩
  rw [spec_l71Bent.l0]
  by_cases c : i < 4
  ·rw [if_pos c]
   obtain ⟨v, s1, s2, s3⟩ := pick_tells hb hl hp (by omega) (show (6 : Int) < 1073741824 by omega) (k := k + 1) (by omega)
   rw [s1]; simp only [Option.bind_some]
   rw [spec_l71Bent.j1]
   by_cases cv : v > 0
   ·have es := (ExprSpan_is (e := ⟨f0, f1, f2, l⟩) (by omega) (k := k) (by omega)).2
    dsimp only at es
    rw [decide_eq_true cv, if_pos rfl, es]
    simp only [Option.bind_some]
    by_cases ok : (exprR ⟨f0, f1, f2, l⟩).2.2 = true
    ·rw [if_pos ok]
     obtain ⟨g0, g1, g2, m, p', a1, a2, a3, a4⟩ := bentEnd_tells hb hl f0 f1 f2 l hn (show 0 ≤ p + 1 by omega) (by omega) (k := k) (by omega)
     exact ⟨_, _, _, _, _, a1, a2, by omega, by omega⟩
    ·rw [if_neg ok]
     obtain ⟨x, t1, t2, t3⟩ := pick_tells hb hl (show 0 ≤ p + 1 by omega) (by omega) (show (4 : Int) < 1073741824 by omega) (k := k) (by omega)
     rw [t1]; simp only [Option.bind_some]
     have xd : (1 + x : Int) = ((1 + x).toNat : Int) := by omega
     have m4 := mono (1 + x).toNat (by omega)
     obtain ⟨h0, h1, h2, m, p1, u1, u2, u3, u4⟩ := expr_tells hb hl ex (1 + x).toNat (1 + x) (p + 1 + 1) k xd (by omega) (by omega) (by omega) (by omega)
     rw [w64 (x := 1 + x) (by omega) (by omega), u1]
     simp only [Option.bind_some]
     rw [w64 (x := i + 1) (by omega) (by omega)]
     obtain ⟨g0, g1, g2, m', p', a1, a2, a3, a4⟩ := ih (i + 1) p1 h0 h1 h2 m k (by omega) (by omega) (by omega) (by omega) (by omega) (by omega)
     exact ⟨_, _, _, _, _, a1, a2, by omega, by omega⟩
   ·rw [decide_eq_false cv, if_neg (by decide)]
    obtain ⟨g0, g1, g2, m, p', a1, a2, a3, a4⟩ := bentEnd_tells hb hl f0 f1 f2 l hn (show 0 ≤ p + 1 by omega) (by omega) (k := k) (by omega)
    exact ⟨_, _, _, _, _, a1, a2, by omega, by omega⟩
  ·rw [if_neg c, spec_l71Bent.j1, if_neg (by decide)]
   obtain ⟨g0, g1, g2, m, p', a1, a2, a3, a4⟩ := bentEnd_tells hb hl f0 f1 f2 l hn hp (by omega) (k := k) (by omega)
   exact ⟨_, _, _, _, _, a1, a2, a3, by omega⟩
theorem bent_tells {b : List Int} (hb : Bytes b) (hl : b.length ≤ 2000) (ex : Bool) {p : Int} (hp : 0 ≤ p) (hp2 : p < 800000) {k : Nat} (hk : 1300 ≤ k) :
  ∃ g0 g1 g2 m p', spec_l71Bent.f k b p ex = some (g0, g1, g2, m, p') ∧ nodes ⟨g0, g1, g2, m⟩ ≤ 63 ∧ p ≤ p' ∧ p' ≤ p + 4000 := by
 unfold spec_l71Bent.f
 obtain ⟨x, t1, t2, t3⟩ := pick_tells hb hl hp (by omega) (show (4 : Int) < 1073741824 by omega) (k := k) (by omega)
 rw [t1]; simp only [Option.bind_some]
 have xd : (1 + x : Int) = ((1 + x).toNat : Int) := by omega
 have m4 : capN (1 + x).toNat ≤ 32 := by
  have : (1 + x).toNat = 1 ∨ (1 + x).toNat = 2 ∨ (1 + x).toNat = 3 ∨ (1 + x).toNat = 4 := by omega
  rcases this with h | h | h | h <;> rw [h] <;> decide
 obtain ⟨h0, h1, h2, m, p1, u1, u2, u3, u4⟩ := expr_tells hb hl ex (1 + x).toNat (1 + x) (p + 1) k xd (by omega) (by omega) (by omega) (by omega)
 rw [w64 (x := 1 + x) (by omega) (by omega), u1]
 simp only [Option.bind_some]
 obtain ⟨g0, g1, g2, m', p', a1, a2, a3, a4⟩ := bentLoop_tells hb hl ex 4 0 p1 h0 h1 h2 m k (by omega) (by omega) (by omega) (by omega) (by omega) (by omega)
 exact ⟨_, _, _, _, _, a1, a2, by omega, by omega⟩

end Go.Proofs.Ytlodpfddimeffaa.M

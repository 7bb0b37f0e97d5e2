import Derived.Test.YtmcippkpgmehdaaP4
namespace Go.Proofs.Ytmcippkpgmehdaa.M
open Go.RowKit Go.Proofs.YtmcippkpgmehdaaW.PrintWords Go.Proofs.YtmcippkpgmehdaaW.PrintLast Go.Proofs.YtmcippkpgmehdaaW.PrintMore
attribute [local go_sem] max2_int min2_int max_two min_two max_three min_three max_four min_four
attribute [local go_sem high] eqA42 eqA29 eqA24
attribute [local go_sem] fld42_0 fld42_1 fld29_0 fld29_1 fld24_0 fld24_1 fld38_0 fld38_1 fld88_0 fld88_1 fld88_2 fld88_3 fld88_4
set_option linter.unusedVariables false
set_option linter.unusedSimpArgs false
/-! ### places: between what is told -/
structure Enc (e : Rat) (s : Int × Int) (x : Rat) : Prop where
 ok : U01 s
 lo : (s.1 : Rat) ≤ 1000000000 * x + e
 hi : 1000000000 * x ≤ (s.2 : Rat) + e
 le : x ≤ 1
theorem prod_lo {a b X Y : Rat} (h1 : 0 ≤ a) (h2 : a ≤ X) (h3 : 0 ≤ b) (h4 : b ≤ Y) : a * b ≤ X * Y := by
 have p := Rat.mul_nonneg (show 0 ≤ X - a by grind) (show 0 ≤ Y by grind)
 have q := Rat.mul_nonneg h1 (show 0 ≤ Y - b by grind)
 grind
theorem prod_hi {a b S T : Rat} (h1 : -S ≤ a) (h2 : a ≤ S) (h3 : -T ≤ b) (h4 : b ≤ T) : a * b ≤ S * T := by
 have p := Rat.mul_nonneg (show 0 ≤ S - a by grind) (show 0 ≤ T + b by grind)
 have q := Rat.mul_nonneg (show 0 ≤ S + a by grind) (show 0 ≤ T - b by grind)
 grind
theorem cast_nn {a : Int} (h : 0 ≤ a) : (0 : Rat) ≤ (a : Rat) := Rat.intCast_le_intCast.2 h
theorem cast_le {a : Int} (h : a ≤ 1000000000) : (a : Rat) ≤ 1000000000 := Rat.intCast_le_intCast.2 h
theorem cast9 : ((1000000000 : Int) : Rat) = 1000000000 := rfl
theorem Enc.ge {e x : Rat} {s : Int × Int} (h : Enc e s x) : -e ≤ 1000000000 * x := by
 have a := cast_nn h.ok.1
 have b := h.lo
 grind
theorem Enc.weak {e f x : Rat} {s : Int × Int} (h : Enc e s x) (hf : e ≤ f) : Enc f s x := by
 obtain ⟨a, b, c, d⟩ := h
 exact ⟨a, by grind, by grind, d⟩
theorem enc_mul {e f x y : Rat} {s t : Int × Int} (he : 0 ≤ e) (he1 : e ≤ 1) (hf : 0 ≤ f) (hf1 : f ≤ 1) (h : Enc e s x) (g : Enc f t y) : Enc (2 * (e + f)) (mulP s t) (x * y) := by
 have hx := h.ge
 have hy := g.ge
 have s0 := cast_nn h.ok.1
 have t0 := cast_nn g.ok.1
 have s2 := cast_nn (Int.le_trans h.ok.1 h.ok.2.1)
 have t2 := cast_nn (Int.le_trans g.ok.1 g.ok.2.1)
 have s3 := cast_le h.ok.2.2
 have t3 := cast_le g.ok.2.2
 have okm := (mulP_ok h.ok g.ok).2
 have c1 := Rat.intCast_le_intCast.2 (dn_le (a := s.1 * t.1) (b := 1000000000) (by omega))
 have c2 := Rat.intCast_le_intCast.2 (upd_ge (a := s.2 * t.2) (b := 1000000000) (by omega))
 rw [Rat.intCast_mul, Rat.intCast_mul, cast9] at c1 c2
 have d1 : (mulP s t).1 = s.1 * t.1 / 1000000000 := rfl
 have d2 : (mulP s t).2 = upd (s.2 * t.2) 1000000000 := rfl
 rw [← d1] at c1
 rw [← d2] at c2
 obtain ⟨-, h1, h2, h3⟩ := h
 obtain ⟨-, g1, g2, g3⟩ := g
 refine ⟨okm, ?_, ?_, ?_⟩
 ·generalize ((mulP s t).1 : Rat) = L at *
  generalize ((mulP s t).2 : Rat) = H at *
  generalize (s.1 : Rat) = a at *
  generalize (s.2 : Rat) = a2 at *
  generalize (t.1 : Rat) = b at *
  generalize (t.2 : Rat) = b2 at *
  have p := prod_lo s0 h1 t0 g1
  have q1 := Rat.mul_nonneg (show 0 ≤ 1 - x by grind) hf
  have q2 := Rat.mul_nonneg (show 0 ≤ 1 - y by grind) he
  have q3 := Rat.mul_nonneg he (show 0 ≤ 1 - f by grind)
  clear c2 h2 g2 okm d1 d2
  grind
 ·generalize ((mulP s t).1 : Rat) = L at *
  generalize ((mulP s t).2 : Rat) = H at *
  generalize (s.1 : Rat) = a at *
  generalize (s.2 : Rat) = a2 at *
  generalize (t.1 : Rat) = b at *
  generalize (t.2 : Rat) = b2 at *
  have p := prod_hi (a := 1000000000 * x) (b := 1000000000 * y) (S := a2 + e) (T := b2 + f) (by grind) h2 (by grind) g2
  have q1 := Rat.mul_nonneg (show 0 ≤ 1000000000 - a2 by grind) hf
  have q2 := Rat.mul_nonneg (show 0 ≤ 1000000000 - b2 by grind) he
  have q3 := Rat.mul_nonneg he (show 0 ≤ 1 - f by grind)
  clear c1 h1 g1 okm d1 d2
  grind
 ·have := prod_hi (a := x) (b := y) (S := 1) (T := 1) (by grind) h3 (by grind) g3
  grind
theorem enc_sine {h : Int} (h0 : -129600000 ≤ h) (h1 : h ≤ 129600000) : ∃ y, y * y = sn h * sn h ∧ Enc (1 / 10000000000000000) (halfM (h % 129600000)) y := by
 have u := half01 (h := h % 129600000) (by omega) (by omega)
 have t := sine_true (h := h) (by omega) (by omega)
 have b := bdZ h
 rcases sine_is_half h with e | e
 ·rw [e] at t
  exact ⟨sn h, rfl, u, t.1, t.2, b.1⟩
 ·rw [e] at t
  simp only [negM] at t
  rw [Rat.intCast_neg, Rat.intCast_neg] at t
  exact ⟨-sn h, by grind, u, by grind, by grind, by grind⟩
theorem enc_sq {h : Int} (h0 : -129600000 ≤ h) (h1 : h ≤ 129600000) : Enc (1 / 1000000000000000) (sqP h) (sn h * sn h) := by
 obtain ⟨y, e, g⟩ := enc_sine h0 h1
 have m := enc_mul (by decide +kernel) (by decide +kernel) (by decide +kernel) (by decide +kernel) g g
 rw [e] at m
 exact m.weak (by decide +kernel)
theorem enc_cos {a : Int} (h0 : -32400000 ≤ a) (h1 : a ≤ 32400000) : Enc (1 / 1000000000000000) (cosM a) (cs (2 * a)) := by
 have u := (cos_half h0 h1).2
 have t := sine_true (h := 2 * a + 64800000) (by omega) (by omega)
 have l := lessQ (-(2 * a))
 have b := bdZ (2 * a)
 have e : 64800000 - -(2 * a) = 2 * a + 64800000 := by omega
 rw [e, cs_neg] at l
 have e2 : sineM (2 * a + 64800000) = cosM a := rfl
 rw [e2] at t
 exact ⟨u, by grind, by grind, b.2.2.1⟩
/-- The square of half the way, truly. -/
def sqE (pu pa qu qa : Int) : Rat := cs (2 * pu) * cs (2 * qu) * (sn (qa - pa) * sn (qa - pa)) + sn (qu - pu) * sn (qu - pu)
theorem square_true {pu pa qu qa : Int} (hp : Up pu) (hq : Up qu) (ha : Ar pa) (hb : Ar qa) :
  ((squareM pu pa qu qa).1 : Rat) ≤ 1000000000 * sqE pu pa qu qa + 1 / 50000000000000 ∧
  ((squareM pu pa qu qa).2 = 1000000000 ∨ 1000000000 * sqE pu pa qu qa ≤ ((squareM pu pa qu qa).2 : Rat) + 1 / 50000000000000) := by
 obtain ⟨hp1, hp2⟩ := hp
 obtain ⟨hq1, hq2⟩ := hq
 obtain ⟨ha1, ha2⟩ := ha
 obtain ⟨hb1, hb2⟩ := hb
 have c := enc_mul (by decide +kernel) (by decide +kernel) (by decide +kernel) (by decide +kernel) (enc_cos hp1 hp2) (enc_cos hq1 hq2)
 have s := enc_sq (h := qa - pa) (by omega) (by omega)
 have m := enc_mul (by decide +kernel) (by decide +kernel) (by decide +kernel) (by decide +kernel) c s
 have o := enc_sq (h := qu - pu) (by omega) (by omega)
 unfold squareM sqE
 generalize mulP (mulP (cosM pu) (cosM qu)) (sqP (qa - pa)) = M at *
 generalize sqP (qu - pu) = O at *
 obtain ⟨m0, m1, m2, -⟩ := m
 obtain ⟨o0, o1, o2, -⟩ := o
 generalize cs (2 * pu) * cs (2 * qu) * (sn (qa - pa) * sn (qa - pa)) = x at *
 generalize sn (qu - pu) * sn (qu - pu) = y at *
 clear c s
 obtain ⟨m3, m4, m5⟩ := m0
 obtain ⟨o3, o4, o5⟩ := o0
 constructor
 ·have e : (clipM (addM M O)).1 ≤ M.1 + O.1 := by unfold clipM addM; dsimp only; omega
  have e2 := Rat.intCast_le_intCast.2 e
  rw [Rat.intCast_add] at e2
  grind
 ·by_cases h : M.2 + O.2 ≤ 1000000000
  ·right
   have e : (clipM (addM M O)).2 = M.2 + O.2 := by unfold clipM addM; dsimp only; omega
   rw [e, Rat.intCast_add]
   grind
  ·left
   unfold clipM addM; dsimp only; omega
/-! ### steps -/
theorem sn_two : 46 / 1000000000 ≤ sn 2 ∧ 94 / 1000000000 ≤ sn 4 := by
 have a := (sine_true (h := 2) (by omega) (by omega)).1
 have b := (sine_true (h := 4) (by omega) (by omega)).1
 have a2 : sineM 2 = (47, (sineM 2).2) := by decide +kernel
 have b2 : sineM 4 = (95, (sineM 4).2) := by decide +kernel
 have a3 : ((sineM 2).1 : Rat) = 47 := by rw [a2]; rfl
 have b3 : ((sineM 4).1 : Rat) = 95 := by rw [b2]; rfl
 rw [a3] at a
 rw [b3] at b
 clear a2 a3 b2 b3
 generalize sn 2 = x at *
 generalize sn 4 = y at *
 exact ⟨by grind, by grind⟩
theorem sn_ge2 {z : Int} (h0 : 2 ≤ z) (h1 : z ≤ 129599998) : 459 / 10000000000 ≤ sn z := by
 have t := sn_two.1
 have low : ∀ z : Int, 2 ≤ z → z ≤ 64800000 → 46 / 1000000000 ≤ sn z := by
  intro z h0 h1
  rcases Int.lt_or_le 2 z with g | g
  ·have := grow_half (a := 2) (b := z) (by omega) g h1
   generalize sn 2 = x at *
   grind
  ·have e : z = 2 := by omega
   rw [e]; exact t
 rcases Int.lt_or_le 64800000 z with g | g
 ·have a := low (129600000 - z) (by omega) (by omega)
  have l := lessH z
  grind
 ·have a := low z h0 g
  grind
theorem sn_ge4 {z : Int} (h0 : 4 ≤ z) (h1 : z ≤ 129599996) : 93 / 1000000000 ≤ sn z := by
 have t := sn_two.2
 have low : ∀ z : Int, 4 ≤ z → z ≤ 64800000 → 94 / 1000000000 ≤ sn z := by
  intro z h0 h1
  rcases Int.lt_or_le 4 z with g | g
  ·have := grow_half (a := 4) (b := z) (by omega) g h1
   generalize sn 4 = x at *
   grind
  ·have e : z = 4 := by omega
   rw [e]; exact t
 rcases Int.lt_or_le 64800000 z with g | g
 ·have a := low (129600000 - z) (by omega) (by omega)
  have l := lessH z
  grind
 ·have a := low z h0 g
  grind
theorem subZ (a b : Int) : cs (a - b) = cs a * cs b + sn a * sn b ∧ sn (a - b) = sn a * cs b - cs a * sn b := by
 have h := addZ a (-b)
 rw [sn_neg, cs_neg] at h
 have e : a + -b = a - b := by omega
 rw [e] at h
 exact ⟨by grind, by grind⟩
theorem sn_nn {h : Int} (h0 : 0 ≤ h) (h1 : h ≤ 64800000) : 0 ≤ sn h := by
 rcases Int.lt_or_le 0 h with g | g
 ·have := grow_half (a := 0) (b := h) (by omega) g h1
  rw [sn_zero] at this
  grind
 ·have e : h = 0 := by omega
  rw [e, sn_zero]; grind
theorem sq_step {x y : Int} (h0 : 0 ≤ x) (h : x + 2 ≤ y) (h1 : y ≤ 64800000) : sn x * sn x + 2 / 1000000000000000 ≤ sn y * sn y := by
 have a := (addZ y x).2
 have b := (subZ y x).2
 have ux := unitZ x
 have uy := unitZ y
 have p := sn_ge2 (z := y + x) (by omega) (by omega)
 have q := sn_ge2 (z := y - x) (by omega) (by omega)
 have m := prod_lo (a := 459 / 10000000000) (b := 459 / 10000000000) (by decide +kernel) p (by decide +kernel) q
 have e : sn (y + x) * sn (y - x) = sn y * sn y - sn x * sn x := by
  rw [a, b]
  generalize sn x = s at *
  generalize sn y = t at *
  generalize cs x = c at *
  generalize cs y = d at *
  have e1 : c * c = 1 - s * s := by grind
  have e2 : d * d = 1 - t * t := by grind
  have e3 : (t * c + d * s) * (t * c - d * s) = t * t * (c * c) - d * d * (s * s) := by grind
  rw [e3, e1, e2]
  grind
 rw [e] at m
 have k : (2 : Rat) / 1000000000000000 ≤ 459 / 10000000000 * (459 / 10000000000) := by decide +kernel
 grind
/-! ### the third place -/
theorem tri_core {p1 p2 p3 q1 q2 q3 r1 r2 r3 g h s : Rat} (hp : p1 * p1 + p2 * p2 + p3 * p3 = 1) (hq : q1 * q1 + q2 * q2 + q3 * q3 = 1) (hr : r1 * r1 + r2 * r2 + r3 * r3 = 1) :
  2 * (h * s * (p1 * r1 + p2 * r2 + p3 * r3)) + 2 * (g * s * (r1 * q1 + r2 * q2 + r3 * q3)) ≤ 2 * (g * h * (p1 * q1 + p2 * q2 + p3 * q3)) + g * g + h * h + s * s := by
 have a1 := Rat.sq_nonneg (h * p1 + g * q1 - s * r1)
 have a2 := Rat.sq_nonneg (h * p2 + g * q2 - s * r2)
 have a3 := Rat.sq_nonneg (h * p3 + g * q3 - s * r3)
 have e1 : h * h * (p1 * p1 + p2 * p2 + p3 * p3) = h * h := by rw [hp]; grind
 have e2 : g * g * (q1 * q1 + q2 * q2 + q3 * q3) = g * g := by rw [hq]; grind
 have e3 : s * s * (r1 * r1 + r2 * r2 + r3 * r3) = s * s := by rw [hr]; grind
 clear hp hq hr
 grind
theorem dbl (h : Int) : cs (2 * h) = 1 - 2 * (sn h * sn h) := by
 have a := (addZ h h).1
 have u := unitZ h
 have e : h + h = 2 * h := by omega
 rw [e] at a
 grind
theorem spot_unit (u a : Int) : cs (2 * u) * cs (2 * a) * (cs (2 * u) * cs (2 * a)) + cs (2 * u) * sn (2 * a) * (cs (2 * u) * sn (2 * a)) + sn (2 * u) * sn (2 * u) = 1 := by
 have x := unitZ (2 * u)
 have y := unitZ (2 * a)
 generalize cs (2 * u) = c at *
 generalize sn (2 * u) = s at *
 generalize cs (2 * a) = d at *
 generalize sn (2 * a) = t at *
 have e : c * d * (c * d) + c * t * (c * t) = c * c * (d * d + t * t) := by grind
 rw [e, y]
 grind
theorem dot_is (pu pa qu qa : Int) : cs (2 * pu) * cs (2 * pa) * (cs (2 * qu) * cs (2 * qa)) + cs (2 * pu) * sn (2 * pa) * (cs (2 * qu) * sn (2 * qa)) + sn (2 * pu) * sn (2 * qu) = 1 - 2 * sqE pu pa qu qa := by
 have a := dbl (qa - pa)
 have b := dbl (qu - pu)
 have c := (subZ (2 * qa) (2 * pa)).1
 have d := (subZ (2 * qu) (2 * pu)).1
 have e1 : 2 * (qa - pa) = 2 * qa - 2 * pa := by omega
 have e2 : 2 * (qu - pu) = 2 * qu - 2 * pu := by omega
 rw [e1, c] at a
 rw [e2, d] at b
 unfold sqE
 generalize sn (qa - pa) * sn (qa - pa) = S at *
 generalize sn (qu - pu) * sn (qu - pu) = T at *
 have f : cs (2 * pu) * cs (2 * pa) * (cs (2 * qu) * cs (2 * qa)) + cs (2 * pu) * sn (2 * pa) * (cs (2 * qu) * sn (2 * qa)) = cs (2 * pu) * cs (2 * qu) * (cs (2 * qa) * cs (2 * pa) + sn (2 * qa) * sn (2 * pa)) := by grind
 rw [f, a]
 grind
/-- If two ways are not longer than so much, the whole way is not longer than both together. -/
theorem tri_three {E F G : Rat} {b c : Int} (hb : 1 ≤ b) (hc : 1 ≤ c) (hbc : b + c < 32400000) (hE : E ≤ sn (2 * b) * sn (2 * b) + 3 / 100000000000000000000000) (hF : F ≤ sn (2 * c) * sn (2 * c) + 3 / 100000000000000000000000)
  (ht : ∀ g h s : Rat, 2 * (h * s * (1 - 2 * E)) + 2 * (g * s * (1 - 2 * F)) ≤ 2 * (g * h * (1 - 2 * G)) + g * g + h * h + s * s) :
  G ≤ sn (2 * (b + c)) * sn (2 * (b + c)) + 1 / 1000000000000000 := by
 have eb := dbl (2 * b)
 have ec := dbl (2 * c)
 have es := dbl (2 * (b + c))
 have a := addZ (2 * (2 * b)) (2 * (2 * c))
 have e : 2 * (2 * b) + 2 * (2 * c) = 2 * (2 * (b + c)) := by omega
 rw [e] at a
 have ub := unitZ (2 * (2 * b))
 have uc := unitZ (2 * (2 * c))
 have gb := sn_ge4 (z := 2 * (2 * b)) (by omega) (by omega)
 have gc := sn_ge4 (z := 2 * (2 * c)) (by omega) (by omega)
 have gs := sn_ge4 (z := 2 * (2 * (b + c))) (by omega) (by omega)
 have s1 := (bdZ (2 * (2 * (b + c)))).1
 have t := ht (sn (2 * (2 * b))) (sn (2 * (2 * c))) (sn (2 * (2 * (b + c))))
 clear ht
 generalize sn (2 * b) * sn (2 * b) = B at *
 generalize sn (2 * c) * sn (2 * c) = C at *
 generalize sn (2 * (b + c)) * sn (2 * (b + c)) = S at *
 generalize sn (2 * (2 * b)) = g at *
 generalize sn (2 * (2 * c)) = h at *
 generalize sn (2 * (2 * (b + c))) = s at *
 generalize cs (2 * (2 * b)) = cg at *
 generalize cs (2 * (2 * c)) = ch at *
 generalize cs (2 * (2 * (b + c))) = k at *
 obtain ⟨ak, an⟩ := a
 -- what both ways give
 have hE2 : cg - 6 / 100000000000000000000000 ≤ 1 - 2 * E := by grind
 have hF2 : ch - 6 / 100000000000000000000000 ≤ 1 - 2 * F := by grind
 have p1 := Rat.mul_nonneg (Rat.mul_nonneg (show 0 ≤ h by grind) (show 0 ≤ s by grind)) (show 0 ≤ 1 - 2 * E - (cg - 6 / 100000000000000000000000) by grind)
 have p2 := Rat.mul_nonneg (Rat.mul_nonneg (show 0 ≤ g by grind) (show 0 ≤ s by grind)) (show 0 ≤ 1 - 2 * F - (ch - 6 / 100000000000000000000000) by grind)
 have i1 : s * s = g * g * (ch * ch) + cg * cg * (h * h) + 2 * (g * h * (cg * ch)) := by rw [an]; grind
 have i2 : g * g * (ch * ch) = g * g - g * g * (h * h) := by
  have : ch * ch = 1 - h * h := by grind
  rw [this]; grind
 have i3 : cg * cg * (h * h) = h * h - g * g * (h * h) := by
  have : cg * cg = 1 - g * g := by grind
  rw [this]; grind
 have i4 : g * h * k = g * h * (cg * ch) - g * g * (h * h) := by rw [ak]; grind
 have i5 : s * s - g * g - h * h = 2 * (g * h * k) := by grind
 have i6 : h * s * cg + g * s * ch = s * s := by
  have : h * s * cg + g * s * ch = s * (g * ch + cg * h) := by grind
  rw [this, ← an]
 -- 2 g h (1 - 2 G) >= 2 g h k - 12e-23 s (g + h)
 have w1 := Rat.mul_nonneg (show 0 ≤ g by grind) (show 0 ≤ 1 - s by grind)
 have w2 := Rat.mul_nonneg (show 0 ≤ h by grind) (show 0 ≤ 1 - s by grind)
 have main : 2 * (g * h * k) - 12 / 100000000000000000000000 * (g + h) ≤ 2 * (g * h * (1 - 2 * G)) := by
  clear ub uc i1 i2 i3 i4 ak an eb ec es hE hF hE2 hF2
  grind
 rcases (Rat.le_total : G ≤ S + 1 / 1000000000000000 ∨ S + 1 / 1000000000000000 ≤ G) with q | q
 ·exact q
 ·-- then 1 - 2 G <= k - 2e-15
  have n1 : 1 - 2 * G ≤ k - 2 / 1000000000000000 := by grind
  have n2 := Rat.mul_nonneg (Rat.mul_nonneg (show 0 ≤ g by grind) (show 0 ≤ h by grind)) (show 0 ≤ k - 2 / 1000000000000000 - (1 - 2 * G) by grind)
  have n3 := Rat.mul_nonneg (show 0 ≤ g by grind) (show 0 ≤ h - 93 / 1000000000 by grind)
  have n4 := Rat.mul_nonneg (show 0 ≤ h by grind) (show 0 ≤ g - 93 / 1000000000 by grind)
  exfalso
  clear ub uc i1 i2 i3 i4 i5 i6 ak an eb ec es hE hF hE2 hF2 p1 p2 w1 w2 t
  grind
/-! ### the angles' ends -/
theorem dist_lo {s : Int × Int} {E D : Rat} (u : U01 s) (h : (s.1 : Rat) ≤ 1000000000 * E + D) (hD : D ≤ 1 / 50000000000000) {b : Int} (b0 : 0 ≤ b) (b1 : b ≤ 32400000) (p : (sineM (2 * b)).2 ≤ rootM (1000000000 * s.1)) :
  sn (2 * b) * sn (2 * b) ≤ E + 3 / 100000000000000000000000 := by
 obtain ⟨r1, r2, r3, -, -, -⟩ := root01 u.1 (show s.1 ≤ 1000000000 by have := u.2.1; have := u.2.2; omega)
 have t := (sine_true (h := 2 * b) (by omega) (by omega)).2
 have n := sn_nn (h := 2 * b) (by omega) (by omega)
 have p' := Rat.intCast_le_intCast.2 p
 have q := Rat.intCast_le_intCast.2 r2
 have q0 := cast_nn r1
 have q1 := cast_le r3
 rw [Rat.intCast_mul, Rat.intCast_mul, cast9] at q
 generalize (rootM (1000000000 * s.1) : Rat) = r at *
 generalize ((sineM (2 * b)).2 : Rat) = z at *
 generalize (s.1 : Rat) = y at *
 generalize sn (2 * b) = x at *
 have m := prod_lo (a := 1000000000 * x) (b := 1000000000 * x) (X := r + 1 / 10000000000000000) (Y := r + 1 / 10000000000000000) (by grind) (by grind) (by grind) (by grind)
 clear p r1 r2 r3 t p'
 grind
theorem dist_hi {s : Int × Int} {E D : Rat} (u : U01 s) (h : s.2 = 1000000000 ∨ 1000000000 * E ≤ (s.2 : Rat) + D) (hD : D ≤ 1 / 50000000000000) {c : Int} (c0 : 0 ≤ c) (c1 : c ≤ 32400000) (q : ceilM (1000000000 * s.2) ≤ (sineM (2 * c)).1) :
  c = 32400000 ∨ E ≤ sn (2 * c) * sn (2 * c) + 3 / 100000000000000000000000 := by
 obtain ⟨-, -, -, r1, r2, r3⟩ := root01 (show 0 ≤ s.2 by have := u.1; have := u.2.1; omega) u.2.2
 rcases h with h | h
 ·left
  rw [h] at r1 r2 r3 q
  generalize ceilM (1000000000 * 1000000000) = r at *
  have e : 1000000000 ≤ r := by
   rcases Int.lt_or_le r 1000000000 with g | g
   ·have := sq_lt' r1 g; omega
   ·exact g
  rcases Int.lt_or_le c 32400000 with g | g
  ·have z : (sineM 64800000).2 = 1000000000 := by decide +kernel
   have := sine_grow (a := 2 * c) (b := 64800000) (by omega) (by omega) (by omega)
   omega
  ·omega
 ·right
  have t := (sine_true (h := 2 * c) (by omega) (by omega)).1
  have n := sn_nn (h := 2 * c) (by omega) (by omega)
  have n1 := (bdZ (2 * c)).1
  have p' := Rat.intCast_le_intCast.2 q
  have q' := Rat.intCast_le_intCast.2 r2
  have q0 := cast_nn r1
  rw [Rat.intCast_mul, Rat.intCast_mul, cast9] at q'
  generalize (ceilM (1000000000 * s.2) : Rat) = r at *
  generalize ((sineM (2 * c)).1 : Rat) = z at *
  generalize (s.2 : Rat) = y at *
  generalize sn (2 * c) = x at *
  have m := prod_lo (a := r) (b := r) (X := 1000000000 * x + 1 / 10000000000000000) (Y := 1000000000 * x + 1 / 10000000000000000) (by grind) (by grind) (by grind) (by grind)
  clear q r1 r2 r3 t p'
  grind
/-! ### what is opposite -/
theorem quart_sq (h : Int) : (sn (h + 64800000) * sn (h + 64800000) - cs h * cs h ≤ 1 / 1000000000000000000000000000 ∧ cs h * cs h - sn (h + 64800000) * sn (h + 64800000) ≤ 1 / 1000000000000000000000000000) ∧
  (sn (h - 64800000) * sn (h - 64800000) - cs h * cs h ≤ 1 / 1000000000000000000000000000 ∧ cs h * cs h - sn (h - 64800000) * sn (h - 64800000) ≤ 1 / 1000000000000000000000000000) := by
 have l1 := lessQ (-h)
 have l2 := lessQ h
 have e1 : 64800000 - -h = h + 64800000 := by omega
 have e2 : sn (h - 64800000) = -sn (64800000 - h) := by
  rw [← sn_neg]
  have : -(64800000 - h) = h - 64800000 := by omega
  rw [this]
 rw [e1, cs_neg] at l1
 rw [e2]
 have b := bdZ h
 have b1 := bdZ (h + 64800000)
 have b2 := bdZ (64800000 - h)
 generalize sn (h + 64800000) = x at *
 generalize sn (64800000 - h) = y at *
 generalize cs h = c at *
 have near : ∀ z : Rat, z - c ≤ 1 / 5000000000000000000000000000 → c - z ≤ 1 / 5000000000000000000000000000 → z ≤ 1 → -1 ≤ z → z * z - c * c ≤ 1 / 1000000000000000000000000000 ∧ c * c - z * z ≤ 1 / 1000000000000000000000000000 := by
  intro z h1 h2 h3 h4
  have m1 := prod_hi (a := z - c) (b := z + c) (S := 1 / 5000000000000000000000000000) (T := 2) (by grind) (by grind) (by grind) (by grind)
  have m2 := prod_hi (a := c - z) (b := z + c) (S := 1 / 5000000000000000000000000000) (T := 2) (by grind) (by grind) (by grind) (by grind)
  constructor <;> grind
 have r1 := near x (by grind) (by grind) (by grind) (by grind)
 have r2 := near y (by grind) (by grind) (by grind) (by grind)
 exact ⟨r1, by grind, by grind⟩
theorem sqE_far {pu pa qu qa : Int} (hb : Ar qa) : sqE pu pa qu qa + sqE pu pa (-qu) (farA qa) ≤ 1 + 1 / 500000000000000000000000000 ∧ 1 - 1 / 500000000000000000000000000 ≤ sqE pu pa qu qa + sqE pu pa (-qu) (farA qa) := by
 obtain ⟨hb1, hb2⟩ := hb
 have qs := quart_sq (qa - pa)
 have near : sn (farA qa - pa) * sn (farA qa - pa) - cs (qa - pa) * cs (qa - pa) ≤ 1 / 1000000000000000000000000000 ∧ cs (qa - pa) * cs (qa - pa) - sn (farA qa - pa) * sn (farA qa - pa) ≤ 1 / 1000000000000000000000000000 := by
  rcases Int.lt_or_le qa 64800000 with g | g
  ·have e : farA qa - pa = qa - pa + 64800000 := by unfold farA; omega
   rw [e]; exact qs.1
  ·have e : farA qa - pa = qa - pa - 64800000 := by unfold farA; omega
   rw [e]; exact qs.2
 clear qs
 unfold sqE
 have ud := unitZ (qa - pa)
 have ua := unitZ pu
 have ub := unitZ qu
 have s1 := (subZ qu pu).2
 have s2 : sn (-qu - pu) = -(sn qu * cs pu + cs qu * sn pu) := by
  have e : -qu - pu = -(qu + pu) := by omega
  rw [e, sn_neg, (addZ qu pu).2]
 have d1 := dbl pu
 have d2 := dbl qu
 have e3 : 2 * -qu = -(2 * qu) := by omega
 rw [e3, cs_neg, s1, s2, d1, d2]
 generalize sn (farA qa - pa) * sn (farA qa - pa) = F at *
 have eD : cs (qa - pa) * cs (qa - pa) = 1 - sn (qa - pa) * sn (qa - pa) := by grind
 rw [eD] at near
 generalize sn (qa - pa) * sn (qa - pa) = D at *
 clear ud eD s1 s2 d1 d2 e3
 have ba := bdZ pu
 have bb := bdZ qu
 generalize sn pu = a at *
 generalize cs pu = c at *
 generalize sn qu = b at *
 generalize cs qu = d at *
 have aa := prod_hi (a := a) (b := a) (S := 1) (T := 1) (by grind) (by grind) (by grind) (by grind)
 have bb2 := prod_hi (a := b) (b := b) (S := 1) (T := 1) (by grind) (by grind) (by grind) (by grind)
 have a0 := Rat.sq_nonneg a
 have b0 := Rat.sq_nonneg b
 have ec : c * c = 1 - a * a := by grind
 have ed : d * d = 1 - b * b := by grind
 have sum : (b * c - d * a) * (b * c - d * a) + -(b * c + d * a) * -(b * c + d * a) = 2 * (b * b * (c * c)) + 2 * (d * d * (a * a)) := by grind
 rw [ec, ed] at sum
 generalize a * a = A at *
 generalize b * b = B at *
 have K1 : (1 - 2 * A) * (1 - 2 * B) ≤ 1 := by
  have := prod_hi (a := 1 - 2 * A) (b := 1 - 2 * B) (S := 1) (T := 1) (by grind) (by grind) (by grind) (by grind)
  grind
 have K2 : -1 ≤ (1 - 2 * A) * (1 - 2 * B) := by
  have := prod_hi (a := -(1 - 2 * A)) (b := 1 - 2 * B) (S := 1) (T := 1) (by grind) (by grind) (by grind) (by grind)
  grind
 have K3 : (1 - 2 * A) * (1 - 2 * B) + (2 * (B * (1 - A)) + 2 * ((1 - B) * A)) = 1 := by grind
 have K4 := prod_hi (a := (1 - 2 * A) * (1 - 2 * B)) (b := D + F - 1) (S := 1) (T := 1 / 1000000000000000000000000000) (by grind) (by grind) (by grind) (by grind)
 have K5 := prod_hi (a := -((1 - 2 * A) * (1 - 2 * B))) (b := D + F - 1) (S := 1) (T := 1 / 1000000000000000000000000000) (by grind) (by grind) (by grind) (by grind)
 generalize (b * c - d * a) * (b * c - d * a) = X at *
 generalize -(b * c + d * a) * -(b * c + d * a) = Y at *
 generalize (1 - 2 * A) * (1 - 2 * B) = K at *
 generalize B * (1 - A) = M at *
 generalize (1 - B) * A = N at *
 clear aa bb2 a0 b0 ec ed ua ub ba bb
 constructor <;> grind
theorem square_far {pu pa qu qa : Int} (hp : Up pu) (hq : Up qu) (ha : Ar pa) (hb : Ar qa) :
  (squareM pu pa qu qa).1 + (squareM pu pa (-qu) (farA qa)).1 ≤ 1000000000 ∧ 1000000000 ≤ (squareM pu pa qu qa).2 + (squareM pu pa (-qu) (farA qa)).2 := by
 have hq' : Up (-qu) := ⟨by have := hq.2; omega, by have := hq.1; omega⟩
 obtain ⟨a1, a2⟩ := square_true hp hq ha hb
 obtain ⟨b1, b2⟩ := square_true hp hq' ha (far_ar qa)
 obtain ⟨e1, e2⟩ := sqE_far (pu := pu) (pa := pa) (qu := qu) hb
 have ua := (square_parts hp hq pa qa).2.2
 have ub := (square_parts hp hq' pa (farA qa)).2.2
 generalize squareM pu pa qu qa = s at *
 generalize squareM pu pa (-qu) (farA qa) = t at *
 generalize sqE pu pa qu qa = E at *
 generalize sqE pu pa (-qu) (farA qa) = F at *
 obtain ⟨u1, u2, u3⟩ := ua
 obtain ⟨v1, v2, v3⟩ := ub
 constructor
 ·rcases Int.lt_or_le 1000000000 (s.1 + t.1) with g | g
  ·have c := Rat.intCast_le_intCast.2 (show (1000000001 : Int) ≤ s.1 + t.1 by omega)
   have k : ((1000000001 : Int) : Rat) = 1000000001 := rfl
   rw [Rat.intCast_add, k] at c
   exfalso
   grind
  ·exact g
 ·rcases a2 with a2 | a2
  ·omega
  rcases b2 with b2 | b2
  ·omega
  rcases Int.lt_or_le (s.2 + t.2) 1000000000 with g | g
  ·have c := Rat.intCast_le_intCast.2 (show s.2 + t.2 ≤ (999999999 : Int) by omega)
   have k : ((999999999 : Int) : Rat) = 999999999 := rfl
   rw [Rat.intCast_add, k] at c
   exfalso
   grind
  ·exact g
/-- Two squares that are one together. -/
theorem dist_far {s t : Int × Int} (hs : U01 s) (ht : U01 t) (h1 : s.1 + t.1 ≤ 1000000000) (h2 : 1000000000 ≤ s.2 + t.2) :
  (distOf s).1 + (distOf t).1 ≤ 64800000 ∧ 64800000 ≤ (distOf s).2 + (distOf t).2 := by
 obtain ⟨b, c, e, b1, b2, c1, c2, p, q⟩ := dist_tells hs
 obtain ⟨b', c', e', b1', b2', c1', c2', p', q'⟩ := dist_tells ht
 rw [e, e']
 dsimp only
 have g1 := Rat.intCast_le_intCast.2 h1
 have g2 := Rat.intCast_le_intCast.2 h2
 rw [Rat.intCast_add, cast9] at g1 g2
 constructor
 ·by_cases h : b ≤ 0 ∨ b' ≤ 0 ∨ b + b' ≤ 32400000
  ·omega
  exfalso
  have l := dist_lo (E := (s.1 : Rat) / 1000000000) (D := 0) hs (by grind) (by decide +kernel) (by omega) b2 p
  have l' := dist_lo (E := (t.1 : Rat) / 1000000000) (D := 0) ht (by grind) (by decide +kernel) (by omega) b2' p'
  have st := sq_step (x := 64800000 - 2 * b) (y := 2 * b') (by omega) (by omega) (by omega)
  have qs := (quart_sq (-(2 * b))).1
  have e1 : -(2 * b) + 64800000 = 64800000 - 2 * b := by omega
  rw [e1, cs_neg] at qs
  have u := unitZ (2 * b)
  grind
 ·by_cases h : c = 32400000 ∨ c' = 32400000 ∨ 32400000 ≤ c + c'
  ·omega
  exfalso
  have l := dist_hi (E := (s.2 : Rat) / 1000000000) (D := 0) hs (.inr (by grind)) (by decide +kernel) c1 c2 q
  have l' := dist_hi (E := (t.2 : Rat) / 1000000000) (D := 0) ht (.inr (by grind)) (by decide +kernel) c1' c2' q'
  rcases l with l | l
  ·omega
  rcases l' with l' | l'
  ·omega
  have st := sq_step (x := 2 * c') (y := 64800000 - 2 * c) (by omega) (by omega) (by omega)
  have qs := (quart_sq (-(2 * c))).1
  have e1 : -(2 * c) + 64800000 = 64800000 - 2 * c := by omega
  rw [e1, cs_neg] at qs
  have u := unitZ (2 * c)
  grind
/-- Of a whole square it is half a turn. -/
theorem dist_whole {s : Int × Int} (hs : U01 s) (h : s.2 = 1000000000) : (distOf s).1 ≤ 64800000 ∧ (distOf s).2 = 64800000 := by
 obtain ⟨b, c, e, b1, b2, c1, c2, p, q⟩ := dist_tells hs
 rw [e]
 dsimp only
 rcases dist_hi (E := 2) (D := 0) hs (.inl h) (by decide +kernel) c1 c2 q with l | l
 ·omega
 ·have := bdZ (2 * c)
  have := prod_hi (a := sn (2 * c)) (b := sn (2 * c)) (S := 1) (T := 1) (by grind) (by grind) (by grind) (by grind)
  exfalso
  grind
/-! ### nothing far is the same place -/
theorem half_pos {x : Int} (h0 : 0 < x) (h1 : x < 129600000) : 0 < (halfM x).2 := by
 have z : (sineM 0).1 = 0 := by decide +kernel
 rw [← sine_half_of (by omega) (by omega)]
 rcases Int.lt_or_le 64800000 x with g | g
 ·rw [← sine_refl]
  have := sine_grow (a := 0) (b := 129600000 - x) (by omega) (by omega) (by omega); omega
 ·have := sine_grow (a := 0) (b := x) (by omega) (by omega) (by omega); omega
theorem cos_pos {a : Int} (h : Up a) : Pole a ∨ 0 < (cosM a).2 := by
 obtain ⟨h0, h1⟩ := h
 rw [(cos_half h0 h1).1]
 by_cases g : a = 32400000 ∨ a = -32400000
 ·exact .inl g
 ·exact .inr (half_pos (by omega) (by omega))
theorem mul_zero2 {s t : Int × Int} (hs : U01 s) (ht : U01 t) (h : (mulP s t).2 = 0) : s.2 = 0 ∨ t.2 = 0 := by
 have e : upd (s.2 * t.2) 1000000000 = 0 := h
 have g := upd_ge (a := s.2 * t.2) (b := 1000000000) (by omega)
 rw [e] at g
 rcases Int.lt_or_le 0 s.2 with a | a
 ·rcases Int.lt_or_le 0 t.2 with b | b
  ·have := Int.mul_pos a b; omega
  ·right; have := ht.1; have := ht.2.1; omega
 ·left; have := hs.1; have := hs.2.1; omega
theorem sq_nothing {h : Int} (h0 : (sqP h).2 = 0) : h % 129600000 = 0 := by
 have u := half01 (h := h % 129600000) (by omega) (by omega)
 have m := mul_zero2 u u h0
 rcases Int.lt_or_le 0 (h % 129600000) with g | g
 ·have := half_pos g (by omega); omega
 ·omega
theorem square_nothing {pu pa qu qa : Int} (hp : Up pu) (hq : Up qu) (ha : Ar pa) (hb : Ar qa) (h : (squareM pu pa qu qa).2 = 0) : Same pu pa qu qa := by
 have pr := square_parts hp hq pa qa
 have u := (sq_half (qu - pu)).2
 have v := (sq_half (qa - pa)).2
 obtain ⟨m1, m2, -⟩ := pr
 have e : (mulP (mulP (cosM pu) (cosM qu)) (sqP (qa - pa))).2 = 0 ∧ (sqP (qu - pu)).2 = 0 := by
  unfold squareM clipM addM at h
  dsimp only at h
  have a := m2.1
  have b := m2.2.1
  have c := u.1
  have d := u.2.1
  omega
 have k := sq_nothing e.2
 obtain ⟨hp1, hp2⟩ := hp
 obtain ⟨hq1, hq2⟩ := hq
 obtain ⟨ha1, ha2⟩ := ha
 obtain ⟨hb1, hb2⟩ := hb
 have e1 : pu = qu := by omega
 refine ⟨e1, ?_⟩
 subst e1
 rcases mul_zero2 m1 v e.1 with z | z
 ·right
  have cu := (cos_half hp1 hp2).2
  rcases cos_pos (a := pu) ⟨hp1, hp2⟩ with c | c
  ·exact c
  ·rcases mul_zero2 cu cu z with z | z <;> omega
 ·left
  have := sq_nothing z
  omega
/-- By a third place it is not nearer. -/
theorem dist_three {pu pa qu qa ru ra : Int} (hp : Up pu) (hq : Up qu) (hr : Up ru) (ha : Ar pa) (hb : Ar qa) (hc : Ar ra) :
  (distOf (squareM pu pa qu qa)).1 ≤ (distOf (squareM pu pa ru ra)).2 + (distOf (squareM ru ra qu qa)).2 := by
 have us := (square_parts hp hq pa qa).2.2
 have ut := (square_parts hp hr pa ra).2.2
 have uv := (square_parts hr hq ra qa).2.2
 have ts := (square_true hp hq ha hb).1
 have tt := (square_true hp hr ha hc).2
 have tv := (square_true hr hq hc hb).2
 obtain ⟨a, a', ea, a1, a2, -, -, p, -⟩ := dist_tells us
 obtain ⟨b', b, eb, -, -, b1, b2, -, q⟩ := dist_tells ut
 obtain ⟨c', c, ec, -, -, c1, c2, -, q'⟩ := dist_tells uv
 have z0 : (sineM (2 * 0)).1 = 0 := by decide +kernel
 by_cases hb0 : b = 0
 ·subst hb0
  obtain ⟨-, -, -, r1, r2, -⟩ := root01 (show 0 ≤ (squareM pu pa ru ra).2 by have := ut.1; have := ut.2.1; omega) ut.2.2
  have r0 : ceilM (1000000000 * (squareM pu pa ru ra).2) = 0 := by omega
  rw [r0] at r2
  have sm := square_nothing hp hr ha hc (by have := ut.1; have := ut.2.1; omega)
  have e1 := square_from qu qa sm
  rw [square_sym pu pa qu qa, square_sym ru ra qu qa] at e1
  rw [e1]
  have := dist_ends uv
  have := dist_ends ut
  omega
 by_cases hc0 : c = 0
 ·subst hc0
  obtain ⟨-, -, -, r1, r2, -⟩ := root01 (show 0 ≤ (squareM ru ra qu qa).2 by have := uv.1; have := uv.2.1; omega) uv.2.2
  have r0 : ceilM (1000000000 * (squareM ru ra qu qa).2) = 0 := by omega
  rw [r0] at r2
  have sm := square_nothing hr hq hc hb (by have := uv.1; have := uv.2.1; omega)
  have e1 := square_from pu pa sm
  rw [← e1]
  have := dist_ends ut
  have := dist_ends uv
  omega
 rw [ea, eb, ec]
 dsimp only
 by_cases hbc : 32400000 ≤ b + c
 ·omega
 by_cases ha0 : a ≤ 0
 ·omega
 rcases dist_hi ut tt (by decide +kernel) b1 b2 q with l | l
 ·omega
 rcases dist_hi uv tv (by decide +kernel) c1 c2 q' with m | m
 ·omega
 have lo := dist_lo us ts (by decide +kernel) (by omega) a2 p
 have t3 := tri_three (E := sqE pu pa ru ra) (F := sqE ru ra qu qa) (G := sqE pu pa qu qa) (b := b) (c := c) (by omega) (by omega) (by omega) l m (by
  intro g h s
  rw [← dot_is, ← dot_is, ← dot_is]
  exact tri_core (spot_unit pu pa) (spot_unit qu qa) (spot_unit ru ra))
 rcases Int.lt_or_le (b + c) a with g | g
 ·exfalso
  have st := sq_step (x := 2 * (b + c)) (y := 2 * a) (by omega) (by omega) (by omega)
  grind
 ·omega

end Go.Proofs.Ytmcippkpgmehdaa.M

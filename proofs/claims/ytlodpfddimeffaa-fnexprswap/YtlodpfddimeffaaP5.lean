import Derived.Test.YtlodpfddimeffaaP4
import Derived.Test.YtlodpfddimeffaaMe
import Derived.Test.YtlodpfddimeffaaNf
namespace Go.Proofs.Ytlodpfddimeffaa.M
open Go.RowKit Go.Proofs.YtlodpfddimeffaaW.PrintWords Go.Proofs.YtlodpfddimeffaaW.PrintLast Go.Proofs.YtlodpfddimeffaaW.PrintMore
attribute [local go_sem] max2_int min2_int max_two min_two max_three min_three max_four min_four
attribute [local go_sem high] eqA31
attribute [local go_sem] fld31_0 fld31_1 fld25_0 fld25_1 fld25_2 fld25_3
set_option linter.unusedVariables false
set_option linter.unusedSimpArgs false
/-! ### how large: both tell the same -/
theorem kidsOf_is {f : Int} (h1 : 1 ≤ f) (h2 : f ≤ 8) : impl_kidsOf.f f = some (kidsN f) := by
 have : f = 1 ∨ f = 2 ∨ f = 3 ∨ f = 4 ∨ f = 5 ∨ f = 6 ∨ f = 7 ∨ f = 8 := by omega
 rcases this with h | h | h | h | h | h | h | h <;> subst h <;> decide
theorem skidsOf_is (f : Int) : spec_l31Kids.f f = some (kidsN f) := by
 unfold spec_l31Kids.f
 simp only [sin_is, Option.bind_some]
 by_cases c : 1 ≤ f ∧ f ≤ 8
 ·simp only [c, and_self, decide_true, if_true]
  have : f = 1 ∨ f = 2 ∨ f = 3 ∨ f = 4 ∨ f = 5 ∨ f = 6 ∨ f = 7 ∨ f = 8 := by omega
  rcases this with h | h | h | h | h | h | h | h <;> subst h <;> decide
 ·have k : kidsN f = -1 := by unfold kidsN; rw [if_neg (by omega), if_neg (by omega), if_neg (by omega)]
  rw [k, decide_eq_false c]
  rfl
theorem kidsN_bad {f : Int} (h : ¬ (1 ≤ f ∧ f ≤ 8)) : kidsN f = -1 := by unfold kidsN; rw [if_neg (by omega), if_neg (by omega), if_neg (by omega)]
theorem rd_app (pre rest : List S25) (x : S25) : rd_T25 (pre ++ x :: rest) (pre.length : Int) = x := by
 unfold rd_T25
 simp
theorem size_head (k : Nat) (f0 f1 f2 : Int) (l : List S25) : impl_Expr_size.f (k + 4) f0 f1 f2 l = if headOk f0 f1 f2 l.length then impl_Expr_size.l0 k 1 l (l.length : Int) 0 else some 16 := by
 rw [impl_Expr_size.f]
 simp only [in_is, Option.bind_some]
 by_cases c : 1 ≤ f0 ∧ f0 ≤ 8
 ·rw [decide_eq_true c, if_pos rfl, kidsOf_is c.1 c.2]
  simp only [Option.bind_some]
  by_cases c2 : (l.length : Int) = kidsN f0
  ·have e : ((l.length : Int) != kidsN f0) = false := by simp [c2]
   have q : (f2 == 0) = decide (f2 = 0) := by by_cases y : f2 = 0 <;> simp [y]
   have fin : ∀ b : Bool, (b = true ↔ fineM f0 f1 f2) → impl_Expr_size.j2 (k + 1) b f0 f1 f2 l = if headOk f0 f1 f2 l.length then impl_Expr_size.l0 k 1 l (l.length : Int) 0 else some 16 := by
    intro b hb
    rw [impl_Expr_size.j2]
    by_cases z : fineM f0 f1 f2
    ·rw [if_pos (hb.2 z), if_pos (show headOk f0 f1 f2 l.length from ⟨c2, z⟩)]
    ·rw [if_neg (fun x => z (hb.1 x)), if_neg (fun x : headOk f0 f1 f2 l.length => z x.2)]
   have j : (if f1 = 0 then impl_Expr_size.j1 (k + 2) (f2 == 0) f0 f1 f2 l else impl_Expr_size.j1 (k + 2) false f0 f1 f2 l) = impl_Expr_size.j1 (k + 2) (decide (f1 = 0 ∧ f2 = 0)) f0 f1 f2 l := by
    by_cases z : f1 = 0
    ·rw [if_pos z, q]; simp only [z, true_and]
    ·rw [if_neg z]; simp only [z, false_and, decide_false]
   rw [e, impl_Expr_size.j0, if_neg (show ¬ (false = true) by decide), j, impl_Expr_size.j1, q]
   unfold impl_aTurn.f
   simp only [in_is, Option.bind_some]
   by_cases a1 : f0 = 1
   ·have F : fineM f0 f1 f2 ↔ ((-1000 ≤ f1 ∧ f1 ≤ 1000) ∧ (1 ≤ f2 ∧ f2 ≤ 1000)) := by unfold fineM; rw [if_pos a1]
    rw [if_pos a1]
    by_cases x : -1000 ≤ f1 ∧ f1 ≤ 1000
    ·rw [decide_eq_true x, if_pos rfl]; exact fin _ (by rw [F, decide_eq_true_eq]; exact ⟨fun y => ⟨x, y⟩, fun y => y.2⟩)
    ·rw [decide_eq_false x, if_neg (show ¬ (false = true) by decide)]; exact fin _ (by rw [F]; exact ⟨fun y => absurd y (by decide), fun y => absurd y.1 x⟩)
   ·rw [if_neg a1]
    by_cases a4 : f0 = 4
    ·have F : fineM f0 f1 f2 ↔ ((-129600000 ≤ f1 ∧ f1 ≤ 129600000) ∧ f2 = 0) := by unfold fineM; rw [if_neg a1, if_pos a4]
     rw [if_pos a4]
     by_cases x : -129600000 ≤ f1 ∧ f1 ≤ 129600000
     ·rw [decide_eq_true x, if_pos rfl]; exact fin _ (by rw [F, decide_eq_true_eq]; exact ⟨fun y => ⟨x, y⟩, fun y => y.2⟩)
     ·rw [decide_eq_false x, if_neg (show ¬ (false = true) by decide)]; exact fin _ (by rw [F]; exact ⟨fun y => absurd y (by decide), fun y => absurd y.1 x⟩)
    ·have F : fineM f0 f1 f2 ↔ (f1 = 0 ∧ f2 = 0) := by unfold fineM; rw [if_neg a1, if_neg a4]
     rw [if_neg a4]
     exact fin _ (by rw [F, decide_eq_true_eq])
  ·have e : ((l.length : Int) != kidsN f0) = true := by simp [c2]
   rw [e, impl_Expr_size.j0, if_pos rfl, if_neg (fun h : headOk f0 f1 f2 l.length => c2 h.1)]
 ·rw [decide_eq_false c, if_neg (show ¬ (false = true) by decide), impl_Expr_size.j0, if_pos rfl, if_neg (fun h : headOk f0 f1 f2 l.length => by have h1 := h.1; rw [kidsN_bad c] at h1; omega)]
theorem size_loop (N : Nat) (hN : (N : Int) ≤ 1099511627776) (hf : ∀ e : S25, nodes e ≤ N → ∀ k, 20 * nodes e ≤ k → impl_Expr_size.f k e.f0 e.f1 e.f2 e.f3 = some (sizeM e)) :
  ∀ (rest pre : List S25) (k : Nat) (acc : Int), nodesL rest ≤ N → 20 * nodesL rest + 1 ≤ k → 0 ≤ acc → acc + 16 * (nodesL rest : Int) ≤ 1152921504606846976 → (pre.length : Int) + nodesL rest ≤ 1152921504606846976 →
  impl_Expr_size.l0 k acc (pre ++ rest) ((pre ++ rest).length : Int) (pre.length : Int) = some (acc + sizeL rest) := by
 intro rest
 induction rest with
 | nil =>
  intro pre k acc h1 h2 h3 h4 h5
  obtain ⟨k, rfl⟩ : ∃ q, k = q + 1 := ⟨k - 1, by omega⟩
  rw [impl_Expr_size.l0, if_neg (by simp), sizeL, Int.add_zero]
 | cons x rest ih =>
  intro pre k acc h1 h2 h3 h4 h5
  rw [nodesL] at h1 h2 h4 h5
  have np := nodes_pos x
  obtain ⟨k, rfl⟩ : ∃ q, k = q + 1 := ⟨k - 1, by omega⟩
  have b := sizeM_bd x
  have lt : (pre.length : Int) < ((pre ++ x :: rest).length : Int) := by simp; omega
  rw [impl_Expr_size.l0, if_pos lt, if_pos (by omega), if_pos lt, rd_app, hf x (by omega) k (by omega)]
  simp only [Option.bind_some]
  rw [w64 (x := acc + sizeM x) (by omega) (by omega), w64 (x := (pre.length : Int) + 1) (by omega) (by omega)]
  have e1 : pre ++ x :: rest = (pre ++ [x]) ++ rest := by simp
  have e2 : (pre.length : Int) + 1 = ((pre ++ [x]).length : Int) := by simp
  rw [e1, e2, ih (pre ++ [x]) k (acc + sizeM x) (by omega) (by omega) (by omega) (by omega) (by simp; omega), sizeL, Int.add_assoc]
theorem size_is (N : Nat) (hN : (N : Int) ≤ 1099511627776) : ∀ e : S25, nodes e ≤ N → ∀ k, 20 * nodes e ≤ k → impl_Expr_size.f k e.f0 e.f1 e.f2 e.f3 = some (sizeM e) := by
 induction N with
 | zero => intro e h; have := nodes_pos e; omega
 | succ N ih =>
  intro e h k hk
  obtain ⟨f0, f1, f2, l⟩ := e
  rw [nodes] at h hk
  obtain ⟨k, rfl⟩ : ∃ q, k = q + 4 := ⟨k - 4, by omega⟩
  show impl_Expr_size.f (k + 4) f0 f1 f2 l = _
  rw [size_head, sizeM]
  split
  ·have := size_loop N (by omega) (ih (by omega)) l [] k 1 (by omega) (by omega) (by omega) (by omega) (by simp; omega)
   simpa using this
  ·rfl
theorem ssize_head (k : Nat) (f0 f1 f2 : Int) (l : List S25) (m : Int) (h1 : -100 ≤ m) (h2 : m ≤ 15) : spec_l31Size.f (k + 6) f0 f1 f2 l m = if 1 ≤ m ∧ headOk f0 f1 f2 l.length then spec_l31Size.l0 k m 1 0 f0 f1 f2 l else some (m + 1) := by
 have w : wrap64 (m + 1) = m + 1 := w64 (by omega) (by omega)
 rw [spec_l31Size.f]
 by_cases c : m < 1
 ·rw [if_pos c, spec_l31Size.j0, if_pos rfl, if_neg (by omega), w]
 rw [if_neg c, skidsOf_is]
 simp only [Option.bind_some]
 unfold headOk
 have c1 : 1 ≤ m := by omega
 by_cases c2 : (l.length : Int) = kidsN f0
 ·have e : ((l.length : Int) != kidsN f0) = false := by simp [c2]
  rw [e, spec_l31Size.j0, if_neg (by decide)]
  have j4 : ∀ b, spec_l31Size.j4 (k + 1) m b f0 f1 f2 l = if b = true then some (m + 1) else spec_l31Size.l0 k m 1 0 f0 f1 f2 l := by intro b; rw [spec_l31Size.j4, w]
  have j3 : ∀ b c d, spec_l31Size.j3 (k + 1 + 1) m b c d f0 f1 f2 l = if (b || c || d) = true then spec_l31Size.l0 k m 1 0 f0 f1 f2 l else some (m + 1) := by
   intro b c d
   rw [spec_l31Size.j3, j4, j4]
   cases b <;> cases c <;> cases d <;> simp
  have j2 : ∀ b c, spec_l31Size.j2 (k + 1 + 1 + 1) m b c f0 f1 f2 l = if (b || c || decide (kidsN f0 > 0 ∧ f1 = 0 ∧ f2 = 0)) = true then spec_l31Size.l0 k m 1 0 f0 f1 f2 l else some (m + 1) := by
   intro b c
   rw [spec_l31Size.j2, skidsOf_is]
   simp only [Option.bind_some, j3]
   by_cases x : kidsN f0 > 0
   ·by_cases y : f1 = 0
    ·by_cases z : f2 = 0 <;> simp [x, y, z]
    ·simp [x, y]
   ·simp [x]
  have j1 : ∀ b, spec_l31Size.j1 (k + 1 + 1 + 1 + 1) m b f0 f1 f2 l = if (b || decide (f0 = 4 ∧ (-129600000 ≤ f1 ∧ f1 ≤ 129600000) ∧ f2 = 0) || decide (kidsN f0 > 0 ∧ f1 = 0 ∧ f2 = 0)) = true then spec_l31Size.l0 k m 1 0 f0 f1 f2 l else some (m + 1) := by
   intro b
   rw [spec_l31Size.j1]
   simp only [sin_is, Option.bind_some, j2]
   by_cases x : f0 = 4
   ·by_cases y : -129600000 ≤ f1 ∧ f1 ≤ 129600000
    ·by_cases z : f2 = 0 <;> simp [x, y, z]
    ·simp [x, y]
   ·simp [x]
  simp only [sin_is, Option.bind_some, j1]
  have kn : (l.length : Int) = kidsN f0 → 0 ≤ kidsN f0 := fun h => by omega
  have kn := kn c2
  by_cases a1 : f0 = 1
  ·subst a1
   unfold fineM kidsN at *
   by_cases x : -1000 ≤ f1 ∧ f1 ≤ 1000
   ·by_cases y : 1 ≤ f2 ∧ f2 ≤ 1000 <;> simp [x, y, c1, c2]
   ·simp [x, c1, c2]
  ·by_cases a4 : f0 = 4
   ·subst a4
    unfold fineM kidsN at *
    by_cases x : -129600000 ≤ f1 ∧ f1 ≤ 129600000
    ·by_cases y : f2 = 0 <;> simp [x, y, c1, c2]
    ·simp [x, c1, c2]
   ·have kp : kidsN f0 > 0 := by
     unfold kidsN at kn ⊢
     rw [if_neg (by omega)] at kn ⊢
     split <;> omega
    unfold fineM
    by_cases x : f1 = 0
    ·by_cases y : f2 = 0 <;> simp [a1, a4, x, y, kp, c1, c2]
    ·simp [a1, a4, x, c1, c2]
 ·have e : ((l.length : Int) != kidsN f0) = true := by simp [c2]
  rw [e, spec_l31Size.j0, if_pos rfl, if_neg (fun h => c2 h.2.1), w]
def capM (s m : Int) : Int := if s ≤ m then s else m + 1
theorem ssize_loop (f0 f1 f2 : Int) (N : Nat) (hN : (N : Int) ≤ 1099511627776) (hf : ∀ e : S25, nodes e ≤ N → ∀ (k : Nat) (m : Int), 20 * nodes e ≤ k → -100 ≤ m → m ≤ 15 → spec_l31Size.f k e.f0 e.f1 e.f2 e.f3 m = some (capM (sizeM e) m)) (m : Int) (hm : m ≤ 15) :
  ∀ (rest pre : List S25) (k : Nat) (n : Int), nodesL rest ≤ N → 20 * nodesL rest + 1 ≤ k → 0 ≤ n → n ≤ m → (pre.length : Int) + nodesL rest ≤ 1152921504606846976 →
  spec_l31Size.l0 k m n (pre.length : Int) f0 f1 f2 (pre ++ rest) = some (capM (n + sizeL rest) m) := by
 intro rest
 induction rest with
 | nil =>
  intro pre k n h1 h2 h3 h4 h5
  obtain ⟨k, rfl⟩ : ∃ q, k = q + 1 := ⟨k - 1, by omega⟩
  rw [spec_l31Size.l0, if_neg (by simp), sizeL, Int.add_zero]
  unfold capM
  rw [if_pos h4]
 | cons x rest ih =>
  intro pre k n h1 h2 h3 h4 h5
  rw [nodesL] at h1 h2 h5
  have np := nodes_pos x
  obtain ⟨k, rfl⟩ : ∃ q, k = q + 1 := ⟨k - 1, by omega⟩
  have b := sizeM_bd x
  have b2 := sizeL_bd rest
  have lt : (pre.length : Int) < ((pre ++ x :: rest).length : Int) := by simp; omega
  rw [spec_l31Size.l0, if_pos lt, if_pos (by omega), rd_app, w64 (x := m - n) (by omega) (by omega), hf x (by omega) k (m - n) (by omega) (by omega) (by omega)]
  simp only [Option.bind_some]
  have e1 : pre ++ x :: rest = (pre ++ [x]) ++ rest := by simp
  have e2 : (pre.length : Int) + 1 = ((pre ++ [x]).length : Int) := by simp
  by_cases c : sizeM x ≤ m - n
  ·have e : capM (sizeM x) (m - n) = sizeM x := by unfold capM; rw [if_pos c]
   rw [e, w64 (x := n + sizeM x) (by omega) (by omega), if_neg (by omega), w64 (x := (pre.length : Int) + 1) (by omega) (by omega), e1, e2, ih (pre ++ [x]) k (n + sizeM x) (by omega) (by omega) (by omega) (by omega) (by simp; omega), sizeL, Int.add_assoc]
  ·have e : capM (sizeM x) (m - n) = m - n + 1 := by unfold capM; rw [if_neg c]
   rw [e, w64 (x := n + (m - n + 1)) (by omega) (by omega), if_pos (by omega), w64 (x := m + 1) (by omega) (by omega), sizeL]
   unfold capM
   rw [if_neg (by omega)]
theorem ssize_is (N : Nat) (hN : (N : Int) ≤ 1099511627776) : ∀ e : S25, nodes e ≤ N → ∀ (k : Nat) (m : Int), 20 * nodes e ≤ k → -100 ≤ m → m ≤ 15 → spec_l31Size.f k e.f0 e.f1 e.f2 e.f3 m = some (capM (sizeM e) m) := by
 induction N with
 | zero => intro e h; have := nodes_pos e; omega
 | succ N ih =>
  intro e h k m hk h1 h2
  obtain ⟨f0, f1, f2, l⟩ := e
  rw [nodes] at h hk
  obtain ⟨k, rfl⟩ : ∃ q, k = q + 6 := ⟨k - 6, by omega⟩
  show spec_l31Size.f (k + 6) f0 f1 f2 l m = _
  rw [ssize_head k f0 f1 f2 l m h1 h2, sizeM]
  have b := sizeL_bd l
  by_cases c : headOk f0 f1 f2 l.length
  ·rw [if_pos c]
   by_cases c2 : 1 ≤ m
   ·rw [if_pos ⟨c2, c⟩]
    have := ssize_loop f0 f1 f2 N (by omega) (ih (by omega)) m h2 l [] k 1 (by omega) (by omega) (by omega) c2 (by simp; omega)
    simpa using this
   ·rw [if_neg (fun h => c2 h.1)]
    unfold capM
    rw [if_neg (by omega)]
  ·rw [if_neg c, if_neg (fun h => c h.2)]
   unfold capM
   rw [if_neg (by omega)]
theorem ExprOk_is {e : S25} (hN : (nodes e : Int) ≤ 1099511627776) {k : Nat} (hk : 20 * nodes e ≤ k) : impl_ExprOk.f k e.f0 e.f1 e.f2 e.f3 = some (decide (sizeM e ≤ 15)) ∧ spec_ExprOk.f k e.f0 e.f1 e.f2 e.f3 = some (decide (sizeM e ≤ 15)) := by
 unfold impl_ExprOk.f spec_ExprOk.f
 rw [size_is (nodes e) hN e (Nat.le_refl _) k hk, ssize_is (nodes e) hN e (Nat.le_refl _) k 15 hk (by omega) (by omega)]
 refine ⟨rfl, ?_⟩
 simp only [Option.bind_some]
 unfold capM
 congr 1
 apply decide_eq_decide.2
 split <;> omega
theorem kind_of {f0 : Int} {n : Nat} (h : (n : Int) = kidsN f0) : (1 ≤ f0 ∧ f0 ≤ 8) ∧ n ≤ 2 := by
 unfold kidsN at h
 split at h
 ·omega
 split at h
 ·omega
 split at h
 ·omega
 ·omega

end Go.Proofs.Ytlodpfddimeffaa.M

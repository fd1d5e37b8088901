/- CountOfSphere and the reference's CountOfSphere answer the same for every prime and every radius. No condition. -/
import Derived.Test.YtockdkalkelbcaaPFnExactCountOfSpherex1
import Derived.Test.YtockdkalkelbcaaMath
namespace Go.Proofs.Ytockdkalkelbcaa.Pure
open Go.RowKit Go.Proofs.Ytockdkalkelbcaa.PFnExactCountOfSphere Go.Proofs.YtockdkalkelbcaaW.PrintWords Go.Proofs.YtockdkalkelbcaaW.PrintLast Go.Proofs.YtockdkalkelbcaaW.PrintMore Go.Proofs.Ytockdkalkelbcaa.Math
set_option linter.unusedVariables false
set_option linter.unusedSimpArgs false
theorem isPrime_eq (p : Int) : impl_isPrime.f p = some (decide (IsP p)) := by
  unfold impl_isPrime.f IsP
  by_cases h2 : p = 2
  · subst h2; rfl
  by_cases h3 : p = 3
  · subst h3; rfl
  by_cases h5 : p = 5
  · subst h5; rfl
  by_cases h7 : p = 7
  · subst h7; rfl
  simp [h2, h3, h5, h7]
theorem l01Prime_eq (p : Int) : spec_l01Prime.f p = some (decide (IsP p)) := by
  unfold spec_l01Prime.f IsP
  by_cases h2 : p = 2
  · subst h2; rfl
  by_cases h3 : p = 3
  · subst h3; rfl
  by_cases h5 : p = 5
  · subst h5; rfl
  by_cases h7 : p = 7
  · subst h7; rfl
  simp [h2, h3, h5, h7]
theorem l01In_eq (n a b : Int) : spec_l01In.f n a b = some (decide (a ≤ n ∧ n ≤ b)) := by
  unfold spec_l01In.f
  by_cases h : n ≥ a
  · rw [if_pos h]; simp [h]
  · rw [if_neg h]; simp; omega
theorem power_l {p : Int} (h : IsP p) (n : Nat) (hn : n ≤ 22) : ∀ d i, i + d = n → Ev (fun k => impl_power.l0 k p (p ^ i) n i) (p ^ n) := by
  intro d
  induction d with
  | zero =>
    intro i hi
    obtain rfl : i = n := by omega
    refine Ev.step (fun k => by rw [impl_power.l0]) ?_
    simp only [if_neg (Int.lt_irrefl _)]
    exact Ev.now _
  | succ d ih =>
    intro i hi
    refine Ev.step (fun k => by rw [impl_power.l0]) ?_
    have h1 : (i : Int) < n := by omega
    have h2 := pow_pos' h (i + 1)
    have h3 := pow_le_22 h (n := i + 1) (by omega)
    have e1 : wrap64 (p ^ i * p) = p ^ (i + 1) := by rw [← show p ^ (i + 1) = p ^ i * p from Int.pow_succ p i]; exact wrap_id (by omega) (by omega)
    have e2 : wrap64 ((i : Int) + 1) = ((i + 1 : Nat) : Int) := by rw [wrap_id (by omega) (by omega)]; omega
    simp only [if_pos h1, e1, e2]
    exact ih (i + 1) (by omega)
theorem power_ev {p : Int} (h : IsP p) {n : Int} (hn : n ≤ 22) : Ev (fun k => impl_power.f k p n) (p ^ n.toNat) := by
  unfold impl_power.f
  by_cases h0 : 0 ≤ n
  · have := power_l h n.toNat (by omega) n.toNat 0 (by omega)
    rw [Int.pow_zero, Int.toNat_of_nonneg h0] at this
    exact this
  · refine Ev.step (fun k => by rw [impl_power.l0]) ?_
    have e : n.toNat = 0 := by omega
    simp only [if_neg (show ¬ (0 : Int) < n by omega), e, Int.pow_zero]
    exact Ev.now _
theorem l01Power_l {p : Int} (h : IsP p) : ∀ (d : Nat) (i : Nat), i + d ≤ 22 → Ev (fun k => spec_l01Power.l0 k p d (p ^ i)) (p ^ (i + d)) := by
  intro d
  induction d with
  | zero =>
    intro i hi
    refine Ev.step (fun k => by rw [spec_l01Power.l0]) ?_
    simp only [if_neg (show ¬ ((0 : Nat) : Int) > 0 by omega)]
    exact Ev.now _
  | succ d ih =>
    intro i hi
    refine Ev.step (fun k => by rw [spec_l01Power.l0]) ?_
    have h2 := pow_pos' h (i + 1)
    have h3 := pow_le_22 h (n := i + 1) (by omega)
    have e1 : wrap64 (p ^ i * p) = p ^ (i + 1) := by rw [← show p ^ (i + 1) = p ^ i * p from Int.pow_succ p i]; exact wrap_id (by omega) (by omega)
    have e2 : wrap64 (((d + 1 : Nat) : Int) - 1) = (d : Int) := by rw [wrap_id (by omega) (by omega)]; omega
    simp only [if_pos (show ((d + 1 : Nat) : Int) > 0 by omega), e1, e2]
    have := ih (i + 1) (by omega)
    have e3 : i + (d + 1) = i + 1 + d := by omega
    rw [e3]
    exact this
theorem l01Power_ev {p : Int} (h : IsP p) {n : Int} (hn : n ≤ 22) : Ev (fun k => spec_l01Power.f k p n) (p ^ n.toNat) := by
  unfold spec_l01Power.f
  by_cases h0 : 0 ≤ n
  · have := l01Power_l h n.toNat 0 (by omega)
    rw [Int.pow_zero, Int.toNat_of_nonneg h0, Nat.zero_add] at this
    exact this
  · refine Ev.step (fun k => by rw [spec_l01Power.l0]) ?_
    have e : n.toNat = 0 := by omega
    simp only [if_neg (show ¬ n > 0 by omega), e, Int.pow_zero]
    exact Ev.now _
def CountR (p r : Int) : Int × Int := if IsP p then (if 0 ≤ r ∧ r ≤ 20 then (if r = 0 then (1, 0) else ((p + 1) * p ^ (r - 1).toNat, 0)) else (0, 2)) else (0, 1)
theorem count_fit {p r : Int} (hp : IsP p) (h : r ≤ 20) : 0 ≤ (p + 1) * p ^ (r - 1).toNat ∧ (p + 1) * p ^ (r - 1).toNat ≤ 9223372036854775807 := by
  have h1 := pow_pos' hp (r - 1).toNat
  have h2 := pow_le_seven hp (m := (r - 1).toNat) (n := 19) (by omega)
  have h3 := hp.le_seven
  have h4 := hp.pos
  have e : (7 : Int) ^ 19 = 11398895185373143 := by decide
  rw [e] at h2
  have h5 : (p + 1) * p ^ (r - 1).toNat ≤ 8 * p ^ (r - 1).toNat := Int.mul_le_mul_of_nonneg_right (by omega) (by omega)
  have h6 : 0 ≤ (p + 1) * p ^ (r - 1).toNat := Int.mul_nonneg (by omega) (by omega)
  omega
theorem implCountOfSphere_ev {p r : Int} : Ev (fun k => impl_CountOfSphere.f k p r) (CountR p r) := by
  unfold impl_CountOfSphere.f CountR
  simp only [isPrime_eq, Option.bind_some]
  by_cases hp : IsP p
  · simp only [hp, decide_true, if_true]
    by_cases h1 : 0 ≤ r ∧ r ≤ 20
    · simp only [if_neg (show ¬ r < 0 by omega), if_pos h1, show decide (r > 20) = false from decide_eq_false (by omega)]
      refine Ev.step (fun k => by rw [impl_CountOfSphere.j0]) ?_
      simp only [if_neg Bool.false_ne_true]
      by_cases h2 : r = 0
      · simp only [if_pos h2]; exact Ev.now _
      · have e : wrap64 (r - 1) = r - 1 := wrap_id (by omega) (by omega)
        have hf := count_fit hp h1.2
        have := hp.le_seven
        have := hp.pos
        have e2 : wrap64 (p + 1) = p + 1 := wrap_id (by omega) (by omega)
        simp only [if_neg h2, e]
        rw [bnd (power_ev hp (by omega))]
        rw [e2, wrap_id (by omega) (by omega)]
        exact Ev.now _
    · by_cases h2 : r < 0
      · simp only [if_pos h2, if_neg h1]
        refine Ev.step (fun k => by rw [impl_CountOfSphere.j0]) ?_
        simp only [if_true]; exact Ev.now _
      · simp only [if_neg h2, if_neg h1, show decide (r > 20) = true from decide_eq_true (by omega)]
        refine Ev.step (fun k => by rw [impl_CountOfSphere.j0]) ?_
        simp only [if_true]; exact Ev.now _
  · simp only [hp, decide_false, if_neg Bool.false_ne_true, if_false]; exact Ev.now _
theorem specCountOfSphere_ev {p r : Int} : Ev (fun k => spec_CountOfSphere.f k p r) (CountR p r) := by
  unfold spec_CountOfSphere.f CountR
  simp only [l01Prime_eq, l01In_eq, Option.bind_some]
  by_cases hp : IsP p
  · simp only [hp, decide_true, if_true]
    by_cases h1 : 0 ≤ r ∧ r ≤ 20
    · simp only [h1, and_self, decide_true, if_true]
      by_cases h2 : r = 0
      · simp only [if_pos h2]; exact Ev.now _
      · have e : wrap64 (r - 1) = r - 1 := wrap_id (by omega) (by omega)
        have hf := count_fit hp h1.2
        have := hp.le_seven
        have := hp.pos
        have e2 : wrap64 (p + 1) = p + 1 := wrap_id (by omega) (by omega)
        simp only [if_neg h2, e]
        rw [bnd (l01Power_ev hp (by omega))]
        rw [e2, wrap_id (by omega) (by omega)]
        exact Ev.now _
    · simp only [h1, decide_false, if_neg Bool.false_ne_true, if_false]; exact Ev.now _
  · simp only [hp, decide_false, if_neg Bool.false_ne_true, if_false]; exact Ev.now _
theorem FnExactCountOfSphere : laws_FnExactCountOfSphere.Pure := by
  intro a0 a1 w0 w1
  refine Ev.rounds (g := fun k => laws_FnExactCountOfSphere.f k a0 a1) ?_
  unfold laws_FnExactCountOfSphere.f
  rw [bnd specCountOfSphere_ev, bnd implCountOfSphere_ev]
  simp only [if_true]
  exact Ev.now _

end Go.Proofs.Ytockdkalkelbcaa.Pure

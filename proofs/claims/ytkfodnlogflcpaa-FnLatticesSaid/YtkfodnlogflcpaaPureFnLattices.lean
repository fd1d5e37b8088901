/- Forms of columns do not depend on the order of the columns and hold both, balls of lattices lead back to classes, primitive ones are of the class, and all of them are the reference's: for every draw. No condition. -/
import Derived.Test.YtkfodnlogflcpaaPFnLatticesx22
import Derived.Test.YtkfodnlogflcpaaMathFnLattices
namespace Go.Proofs.Ytkfodnlogflcpaa.Pure
open Go.RowKit Go.Proofs.Ytkfodnlogflcpaa.PFnLattices Go.Proofs.YtkfodnlogflcpaaW.PrintWords Go.Proofs.YtkfodnlogflcpaaW.PrintLast Go.Proofs.YtkfodnlogflcpaaW.PrintMore Go.Proofs.Ytkfodnlogflcpaa.Math
set_option linter.unusedVariables false
set_option linter.unusedSimpArgs false
theorem isPrime_eq (p : Int) : impl_isPrime.f p = some (decide (IsP p)) := by
 unfold impl_isPrime.f IsP
 by_cases h2 : p = 2
 ·subst h2; rfl
 by_cases h3 : p = 3
 ·subst h3; rfl
 by_cases h5 : p = 5
 ·subst h5; rfl
 by_cases h7 : p = 7
 ·subst h7; rfl
 simp [h2, h3, h5, h7]
theorem l01Prime_eq (p : Int) : spec_l01Prime.f p = some (decide (IsP p)) := by
 unfold spec_l01Prime.f IsP
 by_cases h2 : p = 2
 ·subst h2; rfl
 by_cases h3 : p = 3
 ·subst h3; rfl
 by_cases h5 : p = 5
 ·subst h5; rfl
 by_cases h7 : p = 7
 ·subst h7; rfl
 simp [h2, h3, h5, h7]
theorem l01In_eq (n a b : Int) : spec_l01In.f n a b = some (decide (a ≤ n ∧ n ≤ b)) := by
 unfold spec_l01In.f
 by_cases h : n ≥ a
 ·rw [if_pos h]; simp [h]
 ·rw [if_neg h]; simp; omega
theorem isLevel_eq (n : Int) : impl_isLevel.f n = some (decide (-6 ≤ n ∧ n ≤ 6)) := by
 unfold impl_isLevel.f
 by_cases h : n ≥ (-6)
 ·rw [if_pos h]; simp [h]
 ·rw [if_neg h]; simp; omega
theorem power_l {p : Int} (h : IsP p) (n : Nat) (hn : p ^ n ≤ 9223372036854775807) (hn' : n ≤ 1000) : ∀ d i, i + d = n → Ev (fun k => impl_power.l0 k p (p ^ i) n i) (p ^ n) := by
 intro d
 induction d with
 | zero =>
  intro i hi
  obtain rfl : i = n := by omega
  refine Ev.step (fun k => by rw [impl_power.l0]) ?_
  simp only [if_neg (Int.lt_irrefl _)]
  exact Ev.now _
 | succ d ih =>
  intro i hi
  refine Ev.step (fun k => by rw [impl_power.l0]) ?_
  have h1 : (i : Int) < n := by omega
  have h2 := pow_pos' h (i + 1)
  have h3 := pow_mono h (m := i + 1) (n := n) (by omega)
  have e1 : wrap64 (p ^ i * p) = p ^ (i + 1) := by rw [← show p ^ (i + 1) = p ^ i * p from Int.pow_succ p i]; exact wrap_id (by omega) (by omega)
  have e2 : wrap64 ((i : Int) + 1) = ((i + 1 : Nat) : Int) := by rw [wrap_id (by omega) (by omega)]; omega
  simp only [if_pos h1, e1, e2]
  exact ih (i + 1) (by omega)
theorem power_big {p : Int} (h : IsP p) {n : Nat} (hn : p ^ n ≤ 9223372036854775807) (hn' : n ≤ 1000) : Ev (fun k => impl_power.f k p n) (p ^ n) := by
 unfold impl_power.f
 have := power_l h n hn hn' n 0 (by omega)
 rw [Int.pow_zero] at this
 exact this
theorem power_ev {p : Int} (h : IsP p) {n : Int} (hn : n ≤ 22) : Ev (fun k => impl_power.f k p n) (p ^ n.toNat) := by
 by_cases h0 : 0 ≤ n
 ·have := power_big h (n := n.toNat) (by have := pow_le_22 h (n := n.toNat) (by omega); omega) (by omega)
  rw [Int.toNat_of_nonneg h0] at this
  exact this
 ·unfold impl_power.f
  refine Ev.step (fun k => by rw [impl_power.l0]) ?_
  have e : n.toNat = 0 := by omega
  simp only [if_neg (show ¬ (0 : Int) < n by omega), e, Int.pow_zero]
  exact Ev.now _
theorem power_any {p x : Int} (h : IsP p) (hx : x ≠ 0) (h0 : -9223372036854775807 ≤ x) (h1 : x ≤ 9223372036854775807) : Ev (fun k => impl_power.f k p (vl p x)) (p ^ vl p x) :=
 power_big h (by have := pow_vl_le h hx; omega) (by have := vl_le_62 h hx h0 h1; omega)
theorem l01Power_l {p : Int} (h : IsP p) : ∀ (d : Nat) (i : Nat), p ^ (i + d) ≤ 9223372036854775807 → i + d ≤ 1000 → Ev (fun k => spec_l01Power.l0 k p d (p ^ i)) (p ^ (i + d)) := by
 intro d
 induction d with
 | zero =>
  intro i _ _
  refine Ev.step (fun k => by rw [spec_l01Power.l0]) ?_
  simp only [if_neg (show ¬ ((0 : Nat) : Int) > 0 by omega)]
  exact Ev.now _
 | succ d ih =>
  intro i hi hi'
  refine Ev.step (fun k => by rw [spec_l01Power.l0]) ?_
  have h2 := pow_pos' h (i + 1)
  have h3 := pow_mono h (m := i + 1) (n := i + (d + 1)) (by omega)
  have e1 : wrap64 (p ^ i * p) = p ^ (i + 1) := by rw [← show p ^ (i + 1) = p ^ i * p from Int.pow_succ p i]; exact wrap_id (by omega) (by omega)
  have e2 : wrap64 (((d + 1 : Nat) : Int) - 1) = (d : Int) := by rw [wrap_id (by omega) (by omega)]; omega
  simp only [if_pos (show ((d + 1 : Nat) : Int) > 0 by omega), e1, e2]
  have e3 : i + (d + 1) = i + 1 + d := by omega
  rw [e3] at hi ⊢
  exact ih (i + 1) hi (by omega)
theorem l01Power_big {p : Int} (h : IsP p) {n : Nat} (hn : p ^ n ≤ 9223372036854775807) (hn' : n ≤ 1000) : Ev (fun k => spec_l01Power.f k p n) (p ^ n) := by
 unfold spec_l01Power.f
 have := l01Power_l h n 0 (by rw [Nat.zero_add]; exact hn) (by omega)
 rw [Int.pow_zero, Nat.zero_add] at this
 exact this
theorem l01Power_ev {p : Int} (h : IsP p) {n : Int} (hn : n ≤ 22) : Ev (fun k => spec_l01Power.f k p n) (p ^ n.toNat) := by
 by_cases h0 : 0 ≤ n
 ·have := l01Power_big h (n := n.toNat) (by have := pow_le_22 h (n := n.toNat) (by omega); omega) (by omega)
  rw [Int.toNat_of_nonneg h0] at this
  exact this
 ·unfold spec_l01Power.f
  refine Ev.step (fun k => by rw [spec_l01Power.l0]) ?_
  have e : n.toNat = 0 := by omega
  simp only [if_neg (show ¬ n > 0 by omega), e, Int.pow_zero]
  exact Ev.now _
theorem l01Power_any {p x : Int} (h : IsP p) (hx : x ≠ 0) (h0 : -9223372036854775807 ≤ x) (h1 : x ≤ 9223372036854775807) : Ev (fun k => spec_l01Power.f k p (vl p x)) (p ^ vl p x) :=
 l01Power_big h (by have := pow_vl_le h hx; omega) (by have := vl_le_62 h hx h0 h1; omega)
theorem valuation_l {p : Int} (h : IsP p) : ∀ (v : Nat) (u : Int) (n : Int), ¬ p ∣ u → -9223372036854775807 ≤ p ^ v * u → p ^ v * u ≤ 9223372036854775807 → 0 ≤ n → n + v ≤ 1000 → Ev (fun k => impl_valuation.l0 k p (p ^ v * u) n) (n + v) := by
 intro v
 induction v with
 | zero =>
  intro u n hu h0 h1 hn hv
  refine Ev.step (fun k => by rw [impl_valuation.l0]) ?_
  have hne : ¬ Int.tmod (p ^ 0 * u) p = 0 := fun e => by
   rw [tmod_zero_iff, Int.pow_zero, Int.one_mul] at e; exact hu e
  simp only [if_neg h.ne, if_neg hne]
  exact ev_some (by simp)
 | succ v ih =>
  intro u n hu h0 h1 hn hv
  refine Ev.step (fun k => by rw [impl_valuation.l0]) ?_
  have e0 : p ^ (v + 1) * u = p * (p ^ v * u) := by rw [Int.pow_succ, Int.mul_comm (p ^ v) p, Int.mul_assoc]
  have hd : Int.tmod (p ^ (v + 1) * u) p = 0 := by rw [tmod_zero_iff, e0]; exact Int.dvd_mul_right _ _
  have e1 : Int.tdiv (p ^ (v + 1) * u) p = p ^ v * u := by rw [e0]; exact tdiv_mul_left h.ne
  have hb := tdiv_bounds (n := p ^ (v + 1) * u) (m := p)
  rw [e1] at hb
  have e2 : wrap64 (p ^ v * u) = p ^ v * u := wrap_id (by omega) (by omega)
  have e3 : wrap64 (n + 1) = n + 1 := wrap_id (by omega) (by omega)
  simp only [if_neg h.ne, if_pos hd, e1, e2, e3]
  exact ev_eq (ih u (n + 1) hu (by omega) (by omega) (by omega) (by omega)) (by omega)
theorem valuation_ev {p : Int} (h : IsP p) {x : Int} (hx : x ≠ 0) (h0 : -9223372036854775807 ≤ x) (h1 : x ≤ 9223372036854775807) : Ev (fun k => impl_valuation.f k p x) (vl p x) := by
 unfold impl_valuation.f
 simp only [if_neg hx]
 obtain ⟨u, hu, hnd, _⟩ := vl_split h x hx
 have hv := vl_le_62 h hx h0 h1
 have := valuation_l h (vl p x) u 0 hnd (by omega) (by omega) (by omega) (by omega)
 rw [← hu, Int.zero_add] at this
 exact this
theorem valuation_zero (k : Nat) (p : Int) : impl_valuation.f k p 0 = some 1000 := by unfold impl_valuation.f; rw [if_pos rfl]
theorem valuation_zero_ev (p : Int) : Ev (fun k => impl_valuation.f k p 0) 1000 := ⟨0, fun k _ => valuation_zero k p⟩
def vx (p x : Int) : Int := if x = 0 then 1000 else vl p x
theorem valuation_any {p : Int} (h : IsP p) {x : Int} (h0 : -9223372036854775807 ≤ x) (h1 : x ≤ 9223372036854775807) : Ev (fun k => impl_valuation.f k p x) (vx p x) := by
 unfold vx
 by_cases hx : x = 0
 ·subst hx; rw [if_pos rfl]; exact valuation_zero_ev p
 ·rw [if_neg hx]; exact valuation_ev h hx h0 h1
theorem l01Val_l {p : Int} (h : IsP p) : ∀ (v : Nat) (u : Int) (n : Int), ¬ p ∣ u → -9223372036854775807 ≤ p ^ v * u → p ^ v * u ≤ 9223372036854775807 → 0 ≤ n → n + v ≤ 1000 → Ev (fun k => spec_l01Val.l0 k p (p ^ v * u) n) (n + v) := by
 intro v
 induction v with
 | zero =>
  intro u n hu h0 h1 hn hv
  refine Ev.step (fun k => by rw [spec_l01Val.l0]) ?_
  have hne : ¬ Int.tmod (p ^ 0 * u) p = 0 := fun e => by
   rw [tmod_zero_iff, Int.pow_zero, Int.one_mul] at e; exact hu e
  simp only [if_neg h.ne, if_neg hne]
  exact ev_some (by simp)
 | succ v ih =>
  intro u n hu h0 h1 hn hv
  refine Ev.step (fun k => by rw [spec_l01Val.l0]) ?_
  have e0 : p ^ (v + 1) * u = p * (p ^ v * u) := by rw [Int.pow_succ, Int.mul_comm (p ^ v) p, Int.mul_assoc]
  have hd : Int.tmod (p ^ (v + 1) * u) p = 0 := by rw [tmod_zero_iff, e0]; exact Int.dvd_mul_right _ _
  have e1 : Int.tdiv (p ^ (v + 1) * u) p = p ^ v * u := by rw [e0]; exact tdiv_mul_left h.ne
  have hb := tdiv_bounds (n := p ^ (v + 1) * u) (m := p)
  rw [e1] at hb
  have e2 : wrap64 (p ^ v * u) = p ^ v * u := wrap_id (by omega) (by omega)
  have e3 : wrap64 (n + 1) = n + 1 := wrap_id (by omega) (by omega)
  simp only [if_neg h.ne, if_pos hd, e1, e2, e3]
  exact ev_eq (ih u (n + 1) hu (by omega) (by omega) (by omega) (by omega)) (by omega)
theorem l01Val_ev {p : Int} (h : IsP p) {x : Int} (hx : x ≠ 0) (h0 : -9223372036854775807 ≤ x) (h1 : x ≤ 9223372036854775807) : Ev (fun k => spec_l01Val.f k p x) (vl p x) := by
 unfold spec_l01Val.f
 obtain ⟨u, hu, hnd, _⟩ := vl_split h x hx
 have hv := vl_le_62 h hx h0 h1
 have := l01Val_l h (vl p x) u 0 hnd (by omega) (by omega) (by omega) (by omega)
 rw [← hu, Int.zero_add] at this
 exact this
theorem mod_ev {n m : Int} (hm : 0 < m) (hm' : m ≤ 4611686018427387904) : impl_mod.f n m = some (n % m) := by
 unfold impl_mod.f
 have hb := mod_between (n := n) hm
 rw [if_neg (show ¬ m = 0 by omega), wrap_id (by omega) (by omega), mod_eq hm]
theorem IsBall_ev {p l t d : Int} (hl : -9223372036854775808 ≤ l ∧ l ≤ 9223372036854775807) (hd : -9223372036854775808 ≤ d ∧ d ≤ 9223372036854775807) :
  Ev (fun k => impl_IsBall.f k p l t d) (decide (IsP p ∧ Bal p l t d)) := by
 unfold impl_IsBall.f
 simp only [isPrime_eq, isLevel_eq, Option.bind_some]
 have bad : ∀ {c : Prop} [Decidable c], ¬ c → Ev (fun k => impl_IsBall.j0 k p true l t d) (decide c) := by
  intro c _ hc
  refine Ev.step (fun k => by rw [impl_IsBall.j0]) ?_
  simp only [if_true]
  exact ev_some (by simp [hc])
 by_cases hp : IsP p
 ·simp only [hp, decide_true, if_true]
  by_cases h1 : -6 ≤ l ∧ l ≤ 6
  ·simp only [h1, decide_true, if_true, and_self]
   by_cases h2 : d < 0
   ·simp only [if_pos h2]
    exact bad (by unfold Bal; omega)
   ·simp only [if_neg h2]
    by_cases h3 : d > 6
    ·simp only [h3, decide_true]
     exact bad (by unfold Bal; omega)
    ·simp only [h3, decide_false]
     refine Ev.step (fun k => by rw [impl_IsBall.j0]) ?_
     have e : wrap64 (l + d) = l + d := wrap_id (by omega) (by omega)
     simp only [if_neg Bool.false_ne_true, e]
     by_cases h4 : l + d ≤ 0
     ·simp only [if_pos h4]
      by_cases h5 : t = 0
      ·simp only [if_pos h5]
       exact ev_dec (by rw [Bal_low h4]; simp [hp, h5]; omega)
      ·simp only [if_neg h5]
       exact ev_dec (by rw [Bal_low h4]; simp [h5])
     ·simp only [if_neg h4]
      have hpw := pow_pos' hp (l + d).toNat
      by_cases h5 : t ≥ 0
      ·simp only [if_pos h5]
       rw [bnd (power_ev hp (by omega))]
       by_cases h6 : t < p ^ (l + d).toNat
       ·simp only [if_pos h6]
        by_cases h7 : d = 0
        ·simp only [if_pos h7]
         exact ev_dec (by rw [Bal_high h4]; simp [hp, h7] at h6 ⊢; omega)
        ·simp only [if_neg h7, if_neg hp.ne]
         refine ev_dec ?_
         rw [Bal_high h4]
         by_cases h8 : p ∣ t <;> simp [hp, h7, tmod_zero_iff, h8] <;> omega
       ·simp only [if_neg h6]
        exact ev_dec (by rw [Bal_high h4]; simp [hp]; omega)
      ·simp only [if_neg h5]
       exact ev_dec (by rw [Bal_high h4]; simp [hp]; omega)
  ·simp only [h1, decide_false, if_neg Bool.false_ne_true]
   exact bad (by unfold Bal; omega)
 ·simp only [hp, decide_false, if_neg Bool.false_ne_true]
  exact bad (by simp)
theorem l01Is_ev {p l t d : Int} (hl : -9223372036854775808 ≤ l ∧ l ≤ 9223372036854775807) (hd : -9223372036854775808 ≤ d ∧ d ≤ 9223372036854775807) :
  Ev (fun k => spec_l01Is.f k p l t d) (decide (IsP p ∧ Bal p l t d)) := by
 unfold spec_l01Is.f
 simp only [l01Prime_eq, l01In_eq, Option.bind_some]
 have bad : ∀ {c : Prop} [Decidable c], ¬ c → Ev (fun k => spec_l01Is.j0 k p true l t d) (decide c) := by
  intro c _ hc
  refine Ev.step (fun k => by rw [spec_l01Is.j0]) ?_
  simp only [if_true]
  exact ev_some (by simp [hc])
 by_cases hp : IsP p
 ·simp only [hp, decide_true, if_true]
  by_cases h1 : -6 ≤ l ∧ l ≤ 6
  ·simp only [h1, decide_true, if_true, and_self]
   by_cases h2 : 0 ≤ d ∧ d ≤ 6
   ·simp only [h2, decide_true, and_self, Bool.not_true]
    refine Ev.step (fun k => by rw [spec_l01Is.j0]) ?_
    have e : wrap64 (l + d) = l + d := wrap_id (by omega) (by omega)
    simp only [if_neg Bool.false_ne_true, e]
    by_cases h4 : l + d ≤ 0
    ·simp only [if_pos h4]
     by_cases h5 : t = 0
     ·simp only [if_pos h5]
      exact ev_dec (by rw [Bal_low h4]; simp [hp, h5]; omega)
     ·simp only [if_neg h5]
      exact ev_dec (by rw [Bal_low h4]; simp [h5])
    ·simp only [if_neg h4]
     have hpw := pow_pos' hp (l + d).toNat
     have hpw2 := pow_le_22 hp (n := (l + d).toNat) (by omega)
     rw [bnd (l01Power_ev hp (by omega))]
     have e2 : wrap64 (p ^ (l + d).toNat - 1) = p ^ (l + d).toNat - 1 := wrap_id (by omega) (by omega)
     simp only [l01In_eq, Option.bind_some, e2]
     by_cases h6 : 0 ≤ t ∧ t ≤ p ^ (l + d).toNat - 1
     ·simp only [h6, decide_true, if_true, and_self]
      by_cases h7 : d = 0
      ·simp only [if_pos h7]
       exact ev_dec (by rw [Bal_high h4]; simp [hp, h7] at h6 ⊢; omega)
      ·simp only [if_neg h7, if_neg hp.ne]
       refine ev_dec ?_
       rw [Bal_high h4]
       by_cases h8 : p ∣ t <;> simp [hp, h7, tmod_zero_iff, h8] <;> omega
     ·simp only [h6, decide_false, if_neg Bool.false_ne_true]
      exact ev_dec (by rw [Bal_high h4]; simp [hp]; omega)
   ·simp only [h2, decide_false, Bool.not_false]
    exact bad (by unfold Bal; omega)
  ·simp only [h1, decide_false, if_neg Bool.false_ne_true]
   exact bad (by unfold Bal; omega)
 ·simp only [hp, decide_false, if_neg Bool.false_ne_true]
  exact bad (by simp)
theorem IsLattice_ev {p u m d : Int} :
  Ev (fun k => impl_IsLattice.f k p u m d) (decide (IsP p ∧ Lat p u m d)) := by
 unfold impl_IsLattice.f
 simp only [isPrime_eq, Option.bind_some]
 by_cases hp : IsP p
 ·simp only [hp, decide_true, if_true]
  by_cases h1 : u ≥ 0
  ·simp only [if_pos h1]
   by_cases h2 : u ≤ 12
   ·simp only [if_pos h2]
    by_cases h3 : d ≥ 0
    ·simp only [if_pos h3]
     by_cases h4 : d ≤ 12
     ·simp only [if_pos h4]
      by_cases h5 : m ≥ 0
      ·simp only [if_pos h5]
       rw [bnd (power_ev hp (by omega))]
       exact ev_dec (by unfold Lat; simp; omega)
      ·simp only [if_neg h5]
       exact ev_dec (by unfold Lat; simp; omega)
     ·simp only [if_neg h4]
      exact ev_dec (by unfold Lat; simp; omega)
    ·simp only [if_neg h3]
     exact ev_dec (by unfold Lat; simp; omega)
   ·simp only [if_neg h2]
    exact ev_dec (by unfold Lat; simp; omega)
  ·simp only [if_neg h1]
   exact ev_dec (by unfold Lat; simp; omega)
 ·simp only [hp, decide_false, if_neg Bool.false_ne_true]
  exact ev_dec (by simp)
theorem l03Is_ev {p u m d : Int} :
  Ev (fun k => spec_l03Is.f k p u m d) (decide (IsP p ∧ Lat p u m d)) := by
 unfold spec_l03Is.f
 simp only [l01Prime_eq, l01In_eq, Option.bind_some]
 have bad : ∀ {c : Prop} [Decidable c], ¬ c → Ev (fun k => spec_l03Is.j0 k p true u m d) (decide c) := by
  intro c _ hc
  refine Ev.step (fun k => by rw [spec_l03Is.j0]) ?_
  simp only [if_true]
  exact ev_some (by simp [hc])
 by_cases hp : IsP p
 ·simp only [hp, decide_true, if_true]
  by_cases h1 : 0 ≤ u ∧ u ≤ 12
  ·simp only [h1, decide_true, if_true, and_self]
   by_cases h2 : 0 ≤ d ∧ d ≤ 12
   ·simp only [h2, decide_true, and_self, Bool.not_true]
    refine Ev.step (fun k => by rw [spec_l03Is.j0]) ?_
    simp only [if_neg Bool.false_ne_true]
    rw [bnd (l01Power_ev hp (by omega))]
    have hpw := pow_pos' hp u.toNat
    have hpw2 := pow_le_22 hp (n := u.toNat) (by omega)
    have e2 : wrap64 (p ^ u.toNat - 1) = p ^ u.toNat - 1 := wrap_id (by omega) (by omega)
    simp only [l01In_eq, Option.bind_some, e2]
    exact ev_dec (by unfold Lat; simp; omega)
   ·simp only [h2, decide_false, Bool.not_false]
    exact bad (by unfold Lat; omega)
  ·simp only [h1, decide_false, if_neg Bool.false_ne_true]
   exact bad (by unfold Lat; omega)
 ·simp only [hp, decide_false, if_neg Bool.false_ne_true]
  exact bad (by simp)
def BallOk (p : Int) (b : S50) : Prop := Bal p b.f0 b.f1 b.f2
instance (p : Int) (b : S50) : Decidable (BallOk p b) := by unfold BallOk; infer_instance
def BallWf (b : S50) : Prop := (-9223372036854775808 ≤ b.f0 ∧ b.f0 ≤ 9223372036854775807) ∧ (-9223372036854775808 ≤ b.f2 ∧ b.f2 ≤ 9223372036854775807)
theorem rd_ball_at (pre : List S50) (b : S50) (ys : List S50) : rd_T50 (pre ++ b :: ys) (pre.length : Int) = b := by
 unfold rd_T50
 simp [List.getD_eq_getElem?_getD]
theorem l01Code_l {p : Int} (hp : IsP p) : ∀ (ys pre : List S50), (pre ++ ys).length ≤ 1000 → (∀ b ∈ ys, BallWf b) → Ev (fun k => spec_l01Code.l0 k p (pre ++ ys) pre.length) (if ∀ b ∈ ys, BallOk p b then 0 else 1) := by
 intro ys
 induction ys with
 | nil =>
  intro pre _ _
  refine Ev.step (fun k => by rw [spec_l01Code.l0]) ?_
  simp only [List.append_nil, if_neg (Int.lt_irrefl _)]
  exact ev_some (by simp)
 | cons b ys ih =>
  intro pre hl hw
  refine Ev.step (fun k => by rw [spec_l01Code.l0]) ?_
  have hl' : (pre ++ b :: ys).length = pre.length + (ys.length + 1) := by simp
  have h1 : (pre.length : Int) < ((pre ++ b :: ys).length : Int) := by omega
  simp only [if_pos h1, if_pos (show (0 : Int) ≤ (pre.length : Int) by omega), rd_ball_at]
  have hb := hw b (by simp)
  rw [bnd (l01Is_ev hb.1 hb.2)]
  by_cases hB : Bal p b.f0 b.f1 b.f2
  ·simp only [hp, hB, and_self, decide_true, if_true]
   have e : wrap64 ((pre.length : Int) + 1) = ((pre ++ [b]).length : Int) := by rw [wrap_id (by omega) (by omega)]; simp
   have := ih (pre ++ [b]) (by simpa using hl) (fun c hc => hw c (by simp [hc]))
   rw [e]
   simp only [List.append_assoc, List.singleton_append] at this
   refine ev_eq this ?_
   have : (∀ c ∈ b :: ys, BallOk p c) ↔ (∀ c ∈ ys, BallOk p c) := by simp [BallOk, hB]
   simp only [this]
  ·simp only [hp, hB, and_false, decide_false, if_neg Bool.false_ne_true]
   refine ev_some ?_
   rw [if_neg]
   intro hall
   exact hB (hall b (by simp))
theorem l01Code_ev {p : Int} {ys : List S50} (hl : ys.length ≤ 1000) (hw : ∀ b ∈ ys, BallWf b) : Ev (fun k => spec_l01Code.f k p ys) (if IsP p ∧ ∀ b ∈ ys, BallOk p b then 0 else 1) := by
 unfold spec_l01Code.f
 simp only [l01Prime_eq, Option.bind_some]
 by_cases hp : IsP p
 ·simp only [hp, decide_true, if_true, true_and]
  exact l01Code_l hp ys [] (by simpa using hl) hw
 ·simp only [hp, decide_false, if_neg Bool.false_ne_true, false_and, if_false]
  exact Ev.now _
theorem l01Code1 {p l t d : Int} (hl : -9223372036854775808 ≤ l ∧ l ≤ 9223372036854775807) (hd : -9223372036854775808 ≤ d ∧ d ≤ 9223372036854775807) :
  Ev (fun k => spec_l01Code.f k p [⟨l, t, d⟩]) (if IsP p ∧ Bal p l t d then 0 else 1) := by
 refine ev_eq (l01Code_ev (by simp) (by intro b hb; simp at hb; subst hb; exact ⟨hl, hd⟩)) ?_
 simp [BallOk]
def LatOk (p : Int) (b : S27) : Prop := Lat p b.f0 b.f1 b.f2
instance (p : Int) (b : S27) : Decidable (LatOk p b) := by unfold LatOk; infer_instance
theorem rd_lat_at (pre : List S27) (b : S27) (ys : List S27) : rd_T27 (pre ++ b :: ys) (pre.length : Int) = b := by
 unfold rd_T27
 simp [List.getD_eq_getElem?_getD]
theorem l03Code_l {p : Int} (hp : IsP p) : ∀ (ys pre : List S27), (pre ++ ys).length ≤ 1000 → Ev (fun k => spec_l03Code.l0 k p (pre ++ ys) pre.length) (if ∀ b ∈ ys, LatOk p b then 0 else 1) := by
 intro ys
 induction ys with
 | nil =>
  intro pre _
  refine Ev.step (fun k => by rw [spec_l03Code.l0]) ?_
  simp only [List.append_nil, if_neg (Int.lt_irrefl _)]
  exact ev_some (by simp)
 | cons b ys ih =>
  intro pre hl
  refine Ev.step (fun k => by rw [spec_l03Code.l0]) ?_
  have hl' : (pre ++ b :: ys).length = pre.length + (ys.length + 1) := by simp
  have h1 : (pre.length : Int) < ((pre ++ b :: ys).length : Int) := by omega
  simp only [if_pos h1, if_pos (show (0 : Int) ≤ (pre.length : Int) by omega), rd_lat_at]
  rw [bnd l03Is_ev]
  by_cases hB : Lat p b.f0 b.f1 b.f2
  ·simp only [hp, hB, and_self, decide_true, if_true]
   have e : wrap64 ((pre.length : Int) + 1) = ((pre ++ [b]).length : Int) := by rw [wrap_id (by omega) (by omega)]; simp
   have := ih (pre ++ [b]) (by simpa using hl)
   rw [e]
   simp only [List.append_assoc, List.singleton_append] at this
   refine ev_eq this ?_
   have : (∀ c ∈ b :: ys, LatOk p c) ↔ (∀ c ∈ ys, LatOk p c) := by simp [LatOk, hB]
   simp only [this]
  ·simp only [hp, hB, and_false, decide_false, if_neg Bool.false_ne_true]
   refine ev_some ?_
   rw [if_neg]
   intro hall
   exact hB (hall b (by simp))
theorem l03Code_ev {p : Int} {ys : List S27} (hl : ys.length ≤ 1000) : Ev (fun k => spec_l03Code.f k p ys) (if IsP p ∧ ∀ b ∈ ys, LatOk p b then 0 else 1) := by
 unfold spec_l03Code.f
 simp only [l01Prime_eq, Option.bind_some]
 by_cases hp : IsP p
 ·simp only [hp, decide_true, if_true, true_and]
  exact l03Code_l hp ys [] (by simpa using hl)
 ·simp only [hp, decide_false, if_neg Bool.false_ne_true, false_and, if_false]
  exact Ev.now _
theorem l03Code1 {p l t d : Int} : Ev (fun k => spec_l03Code.f k p [⟨l, t, d⟩]) (if IsP p ∧ Lat p l t d then 0 else 1) := by
 refine ev_eq (l03Code_ev (by simp)) ?_
 simp [LatOk]
theorem l03Code2 {p l t d l' t' d' : Int} : Ev (fun k => spec_l03Code.f k p [⟨l, t, d⟩, ⟨l', t', d'⟩]) (if IsP p ∧ Lat p l t d ∧ Lat p l' t' d' then 0 else 1) := by
 refine ev_eq (l03Code_ev (by simp)) ?_
 simp [LatOk]
theorem areLattices_l {p : Int} : ∀ (ys pre : List S27), (pre ++ ys).length ≤ 1000 → Ev (fun k => impl_areLattices.l0 k p (pre ++ ys) ((pre ++ ys).length : Int) pre.length) (decide (∀ b ∈ ys, IsP p ∧ LatOk p b)) := by
 intro ys
 induction ys with
 | nil =>
  intro pre _
  refine Ev.step (fun k => by rw [impl_areLattices.l0]) ?_
  simp only [List.append_nil, if_neg (Int.lt_irrefl _)]
  exact ev_some (by simp)
 | cons b ys ih =>
  intro pre hl
  refine Ev.step (fun k => by rw [impl_areLattices.l0]) ?_
  have hl' : (pre ++ b :: ys).length = pre.length + (ys.length + 1) := by simp
  have h1 : (pre.length : Int) < ((pre ++ b :: ys).length : Int) := by omega
  simp only [if_pos h1, if_pos (show (0 : Int) ≤ (pre.length : Int) by omega), rd_lat_at]
  rw [bnd IsLattice_ev]
  by_cases hB : IsP p ∧ Lat p b.f0 b.f1 b.f2
  ·simp only [hB, and_self, decide_true, if_true]
   have e : wrap64 ((pre.length : Int) + 1) = ((pre ++ [b]).length : Int) := by rw [wrap_id (by omega) (by omega)]; simp
   have := ih (pre ++ [b]) (by simpa using hl)
   rw [e]
   simp only [List.append_assoc, List.singleton_append] at this
   refine ev_eq this ?_
   rw [decide_eq_decide]
   simp [LatOk, hB]
  ·simp only [hB, decide_false, if_neg Bool.false_ne_true]
   refine ev_some ?_
   symm
   rw [decide_eq_false_iff_not]
   intro hall
   exact hB (hall b (by simp))
theorem areLattices2 {p l t d l' t' d' : Int} : Ev (fun k => impl_areLattices.f k p [⟨l, t, d⟩, ⟨l', t', d'⟩]) (decide (IsP p ∧ Lat p l t d ∧ Lat p l' t' d')) := by
 unfold impl_areLattices.f
 refine ev_eq (areLattices_l _ [] (by simp)) ?_
 by_cases hp : IsP p
 ·simp [LatOk, hp]
 ·rw [decide_eq_false (fun h => hp (h _ (List.mem_cons_self ..)).1), decide_eq_false (fun h => hp h.1)]
theorem rd_at (pre : List Int) (b : Int) (ys : List Int) : rd (pre ++ b :: ys) (pre.length : Int) = b := by
 unfold rd
 simp [List.getD_eq_getElem?_getD]
theorem within_l {m : Int} (h0 : 0 ≤ m) (h1 : m ≤ 9223372036854775807) : ∀ (ys pre : List Int), (pre ++ ys).length ≤ 1000 → Ev (fun k => impl_within.l0 k m (pre ++ ys) ((pre ++ ys).length : Int) pre.length) (decide (∀ b ∈ ys, -m ≤ b ∧ b ≤ m)) := by
 intro ys
 induction ys with
 | nil =>
  intro pre _
  refine Ev.step (fun k => by rw [impl_within.l0]) ?_
  simp only [List.append_nil, if_neg (Int.lt_irrefl _)]
  exact ev_some (by simp)
 | cons b ys ih =>
  intro pre hl
  refine Ev.step (fun k => by rw [impl_within.l0]) ?_
  have hl' : (pre ++ b :: ys).length = pre.length + (ys.length + 1) := by simp
  have hlt : (pre.length : Int) < ((pre ++ b :: ys).length : Int) := by omega
  have em : wrap64 (-m) = -m := wrap_id (by omega) (by omega)
  simp only [if_pos hlt, if_pos (show (0 : Int) ≤ (pre.length : Int) by omega), rd_at, em]
  by_cases h2 : b < -m
  ·simp only [if_pos h2]
   refine ev_some ?_
   symm
   rw [decide_eq_false_iff_not]
   intro hall
   have := hall b (by simp)
   omega
  ·simp only [if_neg h2]
   by_cases h3 : b > m
   ·simp only [if_pos h3]
    refine ev_some ?_
    symm
    rw [decide_eq_false_iff_not]
    intro hall
    have := hall b (by simp)
    omega
   ·simp only [if_neg h3]
    have e : wrap64 ((pre.length : Int) + 1) = ((pre ++ [b]).length : Int) := by rw [wrap_id (by omega) (by omega)]; simp
    have := ih (pre ++ [b]) (by simpa using hl)
    rw [e]
    simp only [List.append_assoc, List.singleton_append] at this
    refine ev_eq this ?_
    have : (∀ c ∈ b :: ys, -m ≤ c ∧ c ≤ m) ↔ (∀ c ∈ ys, -m ≤ c ∧ c ≤ m) := by simp; omega
    simp only [this]
theorem within2 {m a b : Int} (h0 : 0 ≤ m) (h1 : m ≤ 9223372036854775807) : Ev (fun k => impl_within.f k m [a, b]) (decide ((-m ≤ a ∧ a ≤ m) ∧ -m ≤ b ∧ b ≤ m)) := by
 unfold impl_within.f
 refine ev_eq (within_l h0 h1 _ [] (by simp)) ?_
 simp
theorem within4 {m a b c d : Int} (h0 : 0 ≤ m) (h1 : m ≤ 9223372036854775807) : Ev (fun k => impl_within.f k m [a, b, c, d]) (decide ((-m ≤ a ∧ a ≤ m) ∧ (-m ≤ b ∧ b ≤ m) ∧ (-m ≤ c ∧ c ≤ m) ∧ -m ≤ d ∧ d ≤ m)) := by
 unfold impl_within.f
 refine ev_eq (within_l h0 h1 _ [] (by simp)) ?_
 simp
def IndexOfR (p u m d : Int) : Int × Int := if IsP p ∧ Lat p u m d then (u + d, 0) else (0, 1)
theorem implIndexOf_ev {p u m d : Int} : Ev (fun k => impl_IndexOf.f k p u m d) (IndexOfR p u m d) := by
 unfold impl_IndexOf.f IndexOfR
 rw [bnd IsLattice_ev]
 by_cases h : IsP p ∧ Lat p u m d
 ·have e : wrap64 (u + d) = u + d := wrap_id (by have := h.2; unfold Lat at this; omega) (by have := h.2; unfold Lat at this; omega)
  simp only [h, and_self, decide_true, if_true, e]
  exact Ev.now _
 ·simp only [h, decide_false, if_neg Bool.false_ne_true, if_false]
  exact Ev.now _
def ValR (p n d : Int) : Int × Int := if IsP p then (if (-100000000000000000 ≤ n ∧ n ≤ 100000000000000000) ∧ -100000000000000000 ≤ d ∧ d ≤ 100000000000000000 then (if n = 0 ∨ d = 0 then (0, 5) else ((vl p n : Int) - vl p d, 0)) else (0, 2)) else (0, 1)
theorem implValuationOf_ev {p n d : Int} : Ev (fun k => impl_ValuationOf.f k p n d) (ValR p n d) := by
 unfold impl_ValuationOf.f ValR
 simp only [isPrime_eq, Option.bind_some]
 by_cases hp : IsP p
 ·simp only [hp, decide_true, if_true]
  rw [bnd (within2 (by omega) (by omega))]
  by_cases h1 : (-100000000000000000 ≤ n ∧ n ≤ 100000000000000000) ∧ -100000000000000000 ≤ d ∧ d ≤ 100000000000000000
  ·simp only [h1, and_self, decide_true, if_true]
   by_cases h2 : n = 0
   ·simp only [if_pos h2]
    refine Ev.step (fun k => by rw [impl_ValuationOf.j0]) ?_
    simp only [if_true, h2, true_or]; exact Ev.now _
   ·simp only [if_neg h2]
    by_cases h3 : d = 0
    ·refine Ev.step (fun k => by rw [impl_ValuationOf.j0]) ?_
     simp only [h3, beq_self_eq_true, if_true, or_true]; exact Ev.now _
    ·refine Ev.step (fun k => by rw [impl_ValuationOf.j0]) ?_
     simp only [beq_eq_false_iff_ne.2 h3, if_neg Bool.false_ne_true, h2, h3, or_self, if_false]
     rw [bnd (valuation_ev hp h2 (by omega) (by omega)), bnd (valuation_ev hp h3 (by omega) (by omega))]
     have b1 := vl_le_62 hp h2 (by omega) (by omega)
     have b2 := vl_le_62 hp h3 (by omega) (by omega)
     rw [wrap_id (by omega) (by omega)]
     exact Ev.now _
  ·simp only [h1, decide_false, if_neg Bool.false_ne_true, if_false]; exact Ev.now _
 ·simp only [hp, decide_false, if_neg Bool.false_ne_true, if_false]; exact Ev.now _
def lobD (l d : Int) : Int := if d < -l then -l else d
def LobR (p l t d : Int) : Int × Int × Int × Int := if IsP p ∧ Bal p l t d then (l + lobD l d, t, lobD l d, 0) else (0, 0, 0, 1)
theorem lob_mix {p l t d : Int} (hp : IsP p) (h : Bal p l t d) : wrap64 (t * p ^ (lobD l d - d).toNat) = t := by
 have hm := h.mark hp
 have e : t * p ^ (lobD l d - d).toNat = t := by
  unfold lobD
  by_cases hlt : d < -l
  ·rw [Bal_low (by omega)] at h
   simp [h.2.2.2.2.1]
  ·rw [if_neg hlt]; simp
 rw [e]
 have h6 := pow_le_22 hp (n := (l + 6).toNat) (by unfold Bal at h; omega)
 by_cases hlow : l + d ≤ 0
 ·rw [Bal_low hlow] at h
  exact wrap_id (by omega) (by omega)
 ·rw [Bal_high hlow] at h
  have h7 := pow_le_22 hp (n := (l + d).toNat) (by omega)
  exact wrap_id (by omega) (by omega)
theorem implLatticeOfBall_ev {p l t d : Int} (hl : -9223372036854775808 ≤ l ∧ l ≤ 9223372036854775807) (hd : -9223372036854775808 ≤ d ∧ d ≤ 9223372036854775807) : Ev (fun k => impl_LatticeOfBall.f k p l t d) (LobR p l t d) := by
 unfold impl_LatticeOfBall.f LobR
 rw [bnd (IsBall_ev hl hd)]
 by_cases h : IsP p ∧ Bal p l t d
 ·have hr : -6 ≤ l ∧ l ≤ 6 ∧ 0 ≤ d ∧ d ≤ 6 := by have := h.2; unfold Bal at this; omega
  have e1 : wrap64 (-l) = -l := wrap_id (by omega) (by omega)
  have e2 : mx d (-l) = lobD l d := rfl
  have hb : d ≤ lobD l d ∧ lobD l d ≤ 6 ∧ -l ≤ lobD l d := by unfold lobD; split <;> omega
  have e3 : wrap64 (lobD l d - d) = lobD l d - d := wrap_id (by omega) (by omega)
  have e4 : wrap64 (l + lobD l d) = l + lobD l d := wrap_id (by omega) (by omega)
  simp only [h, and_self, decide_true, if_true, e1, e2, e3, e4]
  rw [bnd (power_ev h.1 (by omega))]
  simp only [lob_mix h.1 h.2, impl_form.f]
  simp only [if_neg (show ¬ l + lobD l d > 12 by omega), if_neg (show ¬ lobD l d > 12 by omega), Option.bind_some]
  exact Ev.now _
 ·simp only [h, decide_false, if_neg Bool.false_ne_true, if_false]; exact Ev.now _
theorem specLatticeOfBall_ev {p l t d : Int} (hl : -9223372036854775808 ≤ l ∧ l ≤ 9223372036854775807) (hd : -9223372036854775808 ≤ d ∧ d ≤ 9223372036854775807) : Ev (fun k => spec_LatticeOfBall.f k p l t d) (LobR p l t d) := by
 unfold spec_LatticeOfBall.f LobR
 rw [bnd (l01Code1 hl hd)]
 by_cases h : IsP p ∧ Bal p l t d
 ·have hr : -6 ≤ l ∧ l ≤ 6 ∧ 0 ≤ d ∧ d ≤ 6 := by have := h.2; unfold Bal at this; omega
  have e1 : wrap64 (-l) = -l := wrap_id (by omega) (by omega)
  have hb : d ≤ lobD l d ∧ lobD l d ≤ 6 ∧ -l ≤ lobD l d := by unfold lobD; split <;> omega
  have e2 : mx (mx d (-l)) 0 = lobD l d := by
   have : mx d (-l) = lobD l d := rfl
   rw [this]; unfold mx; rw [if_neg (by omega)]
  have e3 : wrap64 (lobD l d - d) = lobD l d - d := wrap_id (by omega) (by omega)
  have e4 : wrap64 (l + lobD l d) = l + lobD l d := wrap_id (by omega) (by omega)
  simp only [h, and_self, if_true]
  unfold spec_l03OfBall.f
  simp only [e1, e2, e3, e4, Option.bind_assoc, Option.bind_some]
  rw [bnd (l01Power_ev h.1 (by omega))]
  simp only [lob_mix h.1 h.2]
  exact Ev.now _
 ·simp only [h, if_false, if_neg (show ¬ (1 : Int) = 0 by omega)]; exact Ev.now _
def PrimR (p u m d : Int) : Int × Int × Int × Int := (u - pk p u m d, m / p ^ (pk p u m d).toNat, d - pk p u m d, pk p u m d)
theorem prim_mix {p u m d : Int} (hp : IsP p) (h : Lat p u m d) : wrap64 (Int.tdiv m (p ^ (pk p u m d).toNat)) = m / p ^ (pk p u m d).toNat := by
 have hf := pk_facts hp h
 have hs := h.small hp
 have hb := tdiv_bounds (n := m) (m := p ^ (pk p u m d).toNat)
 rw [← Int.tdiv_eq_ediv_of_dvd hf.2.2.2]
 exact wrap_id (by omega) (by omega)
theorem primitive_ev {p u m d : Int} (hp : IsP p) (h : Lat p u m d) : Ev (fun k => impl_primitive.f k p u m d) (PrimR p u m d) := by
 unfold impl_primitive.f PrimR
 have hs := h.small hp
 have hf := pk_facts hp h
 rw [bnd (valuation_any hp (by omega) (by omega))]
 have e : mn (mn u d) (vx p m) = pk p u m d := by
  unfold vx pk
  by_cases hm : m = 0
  ·rw [if_pos hm, if_pos hm]
   have : mn u d ≤ 12 := by unfold Lat at h; unfold mn; split <;> omega
   generalize mn u d = x at *
   unfold mn; rw [if_neg (by omega)]
  ·rw [if_neg hm, if_neg hm]
 unfold Lat at h
 simp only [e]
 rw [bnd (power_ev hp (by omega))]
 simp only [if_neg (pow_ne' hp _), prim_mix hp h]
 rw [wrap_id (x := u - _) (by omega) (by omega), wrap_id (x := d - _) (by omega) (by omega)]
 exact Ev.now _
theorem l03Vals_ev {p x : Int} (hp : IsP p) (h0 : -9223372036854775807 ≤ x) (h1 : x ≤ 9223372036854775807) : Ev (fun k => spec_l03Vals.f k p x) (if x = 0 then 100 else (vl p x : Int)) := by
 unfold spec_l03Vals.f
 by_cases hx : x = 0
 ·simp only [if_pos hx]; exact Ev.now _
 ·simp only [if_neg hx]
  rw [bnd (l01Val_ev hp hx h0 h1)]
  exact Ev.now _
theorem l03Primitive_ev {p u m d : Int} (hp : IsP p) (h : Lat p u m d) : Ev (fun k => spec_l03Primitive.f k p u m d) (PrimR p u m d) := by
 unfold spec_l03Primitive.f PrimR
 have hs := h.small hp
 have hf := pk_facts hp h
 rw [bnd (l03Vals_ev hp (by omega) (by omega))]
 have e : mn (mn u d) (if m = 0 then 100 else (vl p m : Int)) = pk p u m d := by
  unfold pk
  by_cases hm : m = 0
  ·rw [if_pos hm, if_pos hm]
   have : mn u d ≤ 12 := by unfold Lat at h; unfold mn; split <;> omega
   generalize mn u d = x at *
   unfold mn; rw [if_neg (by omega)]
  ·rw [if_neg hm, if_neg hm]
 unfold Lat at h
 simp only [e]
 rw [bnd (l01Power_ev hp (by omega))]
 simp only [if_neg (pow_ne' hp _), prim_mix hp h]
 rw [wrap_id (x := u - _) (by omega) (by omega), wrap_id (x := d - _) (by omega) (by omega)]
 exact Ev.now _
def PrimOfR (p u m d : Int) : Int × Int × Int × Int × Int := if IsP p ∧ Lat p u m d then ((PrimR p u m d).1, (PrimR p u m d).2.1, (PrimR p u m d).2.2.1, (PrimR p u m d).2.2.2, 0) else (0, 0, 0, 0, 1)
theorem implPrimitiveOf_ev {p u m d : Int} : Ev (fun k => impl_PrimitiveOf.f k p u m d) (PrimOfR p u m d) := by
 unfold impl_PrimitiveOf.f PrimOfR
 rw [bnd IsLattice_ev]
 by_cases h : IsP p ∧ Lat p u m d
 ·simp only [h, and_self, decide_true, if_true]
  rw [bnd (primitive_ev h.1 h.2)]
  exact Ev.now _
 ·simp only [h, decide_false, if_neg Bool.false_ne_true, if_false]; exact Ev.now _
theorem specPrimitiveOf_ev {p u m d : Int} : Ev (fun k => spec_PrimitiveOf.f k p u m d) (PrimOfR p u m d) := by
 unfold spec_PrimitiveOf.f PrimOfR
 rw [bnd l03Code1]
 by_cases h : IsP p ∧ Lat p u m d
 ·simp only [h, and_self, if_true]
  rw [bnd (l03Primitive_ev h.1 h.2)]
  exact Ev.now _
 ·simp only [h, if_false, if_neg (show ¬ (1 : Int) = 0 by omega)]; exact Ev.now _
def OneR (p u m d u' m' d' : Int) : Bool × Int :=
 if IsP p ∧ Lat p u m d ∧ Lat p u' m' d' then ((PrimR p u m d).1 == (PrimR p u' m' d').1 && ((PrimR p u m d).2.1 == (PrimR p u' m' d').2.1 && ((PrimR p u m d).2.2.1 == (PrimR p u' m' d').2.2.1)), 0) else (false, 1)
theorem implAreOneClass_ev {p u m d u' m' d' : Int} : Ev (fun k => impl_AreOneClass.f k p u m d u' m' d') (OneR p u m d u' m' d') := by
 unfold impl_AreOneClass.f OneR
 rw [bnd areLattices2]
 by_cases h : IsP p ∧ Lat p u m d ∧ Lat p u' m' d'
 ·simp only [h, and_self, decide_true, if_true]
  rw [bnd (primitive_ev h.1 h.2.1), bnd (primitive_ev h.1 h.2.2)]
  exact Ev.now _
 ·simp only [h, decide_false, if_neg Bool.false_ne_true, if_false]; exact Ev.now _
theorem specAreOneClass_ev {p u m d u' m' d' : Int} : Ev (fun k => spec_AreOneClass.f k p u m d u' m' d') (OneR p u m d u' m' d') := by
 unfold spec_AreOneClass.f OneR
 rw [bnd l03Code2]
 by_cases h : IsP p ∧ Lat p u m d ∧ Lat p u' m' d'
 ·simp only [h, and_self, if_true]
  rw [bnd (l03Primitive_ev h.1 h.2.1), bnd (l03Primitive_ev h.1 h.2.2)]
  exact Ev.now _
 ·simp only [h, if_false, if_neg (show ¬ (1 : Int) = 0 by omega)]; exact Ev.now _
theorem l01MulMod_eq {a b m : Int} (h0 : 0 < m) (h1 : m ≤ 100000000000) : spec_l01MulMod.f a b m = some (a * b % m) := by
 unfold spec_l01MulMod.f
 have ha := mod_between (n := a) h0
 have hb := mod_between (n := b) h0
 have ea : wrap64 (Int.tmod a m + m) = Int.tmod a m + m := wrap_id (by omega) (by omega)
 have eb : wrap64 (Int.tmod b m + m) = Int.tmod b m + m := wrap_id (by omega) (by omega)
 have a0 := Int.emod_nonneg a (Int.ne_of_gt h0)
 have a1 := Int.emod_lt_of_pos a h0
 have b0 := Int.emod_nonneg b (Int.ne_of_gt h0)
 have b1 := Int.emod_lt_of_pos b h0
 rw [if_neg (Int.ne_of_gt h0)]
 simp only [ea, eb, mod_eq h0]
 rw [Int.tmod_eq_emod_of_nonneg b0, Int.tdiv_eq_ediv_of_nonneg b0]
 have hq0 : 0 ≤ b % m / 1000000 := by omega
 have hq1 : b % m / 1000000 ≤ 100000 := by omega
 have hr0 : 0 ≤ b % m % 1000000 := by omega
 have hr1 : b % m % 1000000 ≤ 1000000 := by omega
 have eq : wrap64 (b % m / 1000000) = b % m / 1000000 := wrap_id (by omega) (by omega)
 rw [eq]
 have p1 : 0 ≤ a % m * (b % m / 1000000) := Int.mul_nonneg a0 hq0
 have p2 : a % m * (b % m / 1000000) ≤ 100000000000 * 100000 := Int.mul_le_mul (by omega) hq1 hq0 (by omega)
 have p3 : 0 ≤ a % m * (b % m % 1000000) := Int.mul_nonneg a0 hr0
 have p4 : a % m * (b % m % 1000000) ≤ 100000000000 * 1000000 := Int.mul_le_mul (by omega) hr1 hr0 (by omega)
 rw [wrap_id (x := a % m * (b % m / 1000000)) (by omega) (by omega), wrap_id (x := a % m * (b % m % 1000000)) (by omega) (by omega)]
 rw [Int.tmod_eq_emod_of_nonneg p1, Int.tmod_eq_emod_of_nonneg p3]
 have c0 := Int.emod_nonneg (a % m * (b % m / 1000000)) (Int.ne_of_gt h0)
 have c1 := Int.emod_lt_of_pos (a % m * (b % m / 1000000)) h0
 have d0 := Int.emod_nonneg (a % m * (b % m % 1000000)) (Int.ne_of_gt h0)
 have d1 := Int.emod_lt_of_pos (a % m * (b % m % 1000000)) h0
 rw [wrap_id (x := a % m * (b % m / 1000000) % m * 1000000) (by omega) (by omega)]
 have e0 : 0 ≤ a % m * (b % m / 1000000) % m * 1000000 := by omega
 rw [Int.tmod_eq_emod_of_nonneg e0]
 have f0 := Int.emod_nonneg (a % m * (b % m / 1000000) % m * 1000000) (Int.ne_of_gt h0)
 have f1 := Int.emod_lt_of_pos (a % m * (b % m / 1000000) % m * 1000000) h0
 rw [wrap_id (by omega) (by omega), Int.tmod_eq_emod_of_nonneg (by omega), mulmod_eq]
theorem l01InvMod_l {n m : Int} (hm : 0 < m) (hm' : m ≤ 1000000000000) : ∀ (k : Nat) (a b : Nat) (x y : Int), b ≤ k → Euc n m a b x y → (a : Int) ≤ 1000000000000 → (b : Int) ≤ 1000000000000 →
  ∃ r, Ev (fun k => spec_l01InvMod.l0 k m a b x y) r ∧ 0 ≤ r ∧ r < m ∧ m ∣ r * n - 1 := by
 intro k
 induction k with
 | zero =>
  intro a b x y hb he ha1 hb1
  obtain rfl : b = 0 := by omega
  have hl := he.last
  have hbd := he.bounds
  refine ⟨x % m, ?_, Int.emod_nonneg _ (Int.ne_of_gt hm), Int.emod_lt_of_pos _ hm, ?_⟩
  ·refine Ev.step (fun k => by rw [spec_l01InvMod.l0]) ?_
   have hx := mod_between (n := x) hm
   rw [wrap_id (x := Int.tmod x m + m) (by omega) (by omega), mod_eq hm]
   simp only [Int.natCast_zero, if_true, if_neg (Int.ne_of_gt hm)]
   exact Ev.now _
  ·have h1 := dvd_emod_sub x m
   have h2 : x % m * n - 1 = (x % m - x) * n + (x * n - 1) := by rw [Int.sub_mul]; omega
   rw [h2]
   exact Int.dvd_add (Int.dvd_trans h1 (Int.dvd_mul_right _ _)) hl
 | succ k ih =>
  intro a b x y hb he ha1 hb1
  by_cases hz : b = 0
  ·exact ih a b x y (by omega) he ha1 hb1
  ·have hnx := he.next (by omega)
   obtain ⟨r, hr, h0, h1, h2⟩ := ih b (a % b) y (x - (a / b : Nat) * y) (by have := Nat.mod_lt a (show 0 < b by omega); omega) hnx hb1 (by have := Nat.mod_lt a (show 0 < b by omega); omega)
   refine ⟨r, ?_, h0, h1, h2⟩
   refine Ev.step (fun k => by rw [spec_l01InvMod.l0]) ?_
   suffices hs : wrap64 (Int.tdiv (a : Int) b) = (a / b : Nat) ∧ wrap64 ((a : Int) - wrap64 ((a / b : Nat) * (b : Int))) = (a % b : Nat) ∧ wrap64 (x - wrap64 ((a / b : Nat) * y)) = x - (a / b : Nat) * y by
    simp only [if_neg (show ¬ (b : Int) = 0 by omega), hs.1, hs.2.1, hs.2.2]
    exact hr
   have hbd := he.bounds
   have hbd2 := hnx.bounds
   have hbz : ¬ (b : Int) = 0 := by omega
   have eq : Int.tdiv (a : Int) b = (a / b : Nat) := by rw [Int.tdiv_eq_ediv_of_nonneg (by omega), Int.natCast_ediv]
   have hdm := Nat.div_add_mod a b
   have hle := Nat.div_le_self a b
   have hmod := Nat.mod_le a b
   have hprod : ((a / b : Nat) : Int) * b = a - (a % b : Nat) := by
    have : ((b * (a / b) + a % b : Nat) : Int) = (a : Int) := by rw [hdm]
    rw [Int.natCast_add, Int.natCast_mul, Int.mul_comm (b : Int)] at this
    omega
   rw [eq]
   exact euc_wraps hle hmod hprod (by omega) hm hm' hbd hbd2
theorem l01InvMod_ev {p n : Int} (h : IsP p) {e : Nat} (he : e ≤ 14) (hn : ¬ p ∣ n) :
  ∃ r, Ev (fun k => spec_l01InvMod.f k n (p ^ e)) r ∧ 0 ≤ r ∧ r < p ^ e ∧ p ^ e ∣ r * n - 1 := by
 have h0 := pow_pos' h e
 have h7 := pow_le_seven h (m := e) (n := 14) (by omega)
 have e14 : (7 : Int) ^ 14 = 678223072849 := by decide
 have hb := mod_between (n := n) h0
 have hst := Euc.start (n := n) h0 (coprime_start h hn e)
 have hr0 := Int.emod_nonneg n (Int.ne_of_gt h0)
 have hr1 := Int.emod_lt_of_pos n h0
 obtain ⟨r, hr, a, b, c⟩ := l01InvMod_l h0 (by omega) _ _ _ _ _ (Nat.le_refl _) hst (by omega) (by omega)
 refine ⟨r, ?_, a, b, c⟩
 unfold spec_l01InvMod.f
 simp only [if_neg (Int.ne_of_gt h0)]
 rw [wrap_id (x := Int.tmod n (p ^ e) + p ^ e) (by omega) (by omega), mod_eq h0]
 rw [Int.toNat_of_nonneg hr0, Int.toNat_of_nonneg (by omega)] at hr
 exact hr
theorem l01Of_ev {p num den level x : Int} (h : IsP p) (l0 : -6 ≤ level) (l1 : level ≤ 6) (hden : den ≠ 0)
  (n0 : -4000000000000000000 ≤ num ∧ num ≤ 4000000000000000000) (d0 : -4000000000000000000 ≤ den ∧ den ≤ 4000000000000000000)
  (hx : p ^ ((level + 6).toNat + vl p den) ∣ x * den - num * p ^ 6) (hfit : num = 0 ∨ vl p den ≤ vl p num + 6) :
  Ev (fun k => spec_l01Of.f k p num den level) (level, ofMt p level x, (ofMd p level x : Int), true) := by
 unfold spec_l01Of.f
 simp only [l01In_eq, Option.bind_some, show (-6 ≤ level ∧ level ≤ 6) from ⟨l0, l1⟩, and_self, decide_true, if_true]
 by_cases hz : num = 0
 ·obtain ⟨h1, h2⟩ := of_low h hden hx (.inl hz) l0
  simp only [if_pos hz, h1, h2]
  exact Ev.now _
 ·simp only [if_neg hz]
  have b1 := vl_le_62 h hz (by omega) (by omega)
  have b2 := vl_le_62 h hden (by omega) (by omega)
  rw [bnd (l01Val_ev h hz (by omega) (by omega)), bnd (l01Val_ev h hden (by omega) (by omega))]
  have e1 : wrap64 ((vl p num : Int) - vl p den) = (vl p num : Int) - vl p den := wrap_id (by omega) (by omega)
  have e2 : wrap64 ((vl p den : Int) - vl p num) = (vl p den : Int) - vl p num := wrap_id (by omega) (by omega)
  simp only [e1, e2]
  by_cases hlow : level ≤ (vl p num : Int) - vl p den
  ·obtain ⟨h1, h2⟩ := of_low h hden hx (.inr (by omega)) l0
   simp only [if_pos hlow, h1, h2]
   exact Ev.now _
  ·have hfit' : vl p den ≤ vl p num + 6 := by rcases hfit with h1 | h1; exact absurd h1 hz; exact h1
   have e3 : mx ((vl p den : Int) - vl p num) 0 = ((vl p den - vl p num : Nat) : Int) := by unfold mx; split <;> omega
   have e4 : mx ((vl p num : Int) - vl p den) 0 = ((vl p num - vl p den : Nat) : Int) := by unfold mx; split <;> omega
   have e5 : wrap64 (level + ((vl p den - vl p num : Nat) : Int)) = level + ((vl p den - vl p num : Nat) : Int) := wrap_id (by omega) (by omega)
   simp only [if_neg hlow, e3, e4, e5, if_neg (show ¬ ((vl p den - vl p num : Nat) : Int) > 6 by omega)]
   obtain ⟨un, hun, hund, _⟩ := vl_split h num hz
   obtain ⟨ud, hud, hudd, _⟩ := vl_split h den hden
   rw [bnd (l01Power_ev h (by omega)), bnd (l01Power_any h hz (by omega) (by omega))]
   simp only [if_neg (pow_ne' h _)]
   rw [bnd (l01Power_any h hden (by omega) (by omega))]
   simp only [if_neg (pow_ne' h _)]
   have q1 : Int.tdiv num (p ^ vl p num) = un := by
    conv => lhs; arg 1; rw [hun]
    exact tdiv_mul_left (pow_ne' h _)
   have q2 : Int.tdiv den (p ^ vl p den) = ud := by
    conv => lhs; arg 1; rw [hud]
    exact tdiv_mul_left (pow_ne' h _)
   have c1 := tdiv_bounds (n := num) (m := p ^ vl p num)
   have c2 := tdiv_bounds (n := den) (m := p ^ vl p den)
   rw [q1] at c1
   rw [q2] at c2
   simp only [q1, q2, wrap_id (x := un) (by omega) (by omega), wrap_id (x := ud) (by omega) (by omega)]
   have h12 := pow_le_seven h (m := (level + ((vl p den - vl p num : Nat) : Int)).toNat) (n := 12) (by omega)
   have e12 : (7 : Int) ^ 12 = 13841287201 := by decide
   have hpp := pow_pos' h (level + ((vl p den - vl p num : Nat) : Int)).toNat
   obtain ⟨inv, hinv, _, _, hid⟩ := l01InvMod_ev h (n := ud) (e := (level + ((vl p den - vl p num : Nat) : Int)).toNat) (by omega) hudd
   rw [bnd hinv]
   simp only [l01MulMod_eq hpp (by omega), Option.bind_some]
   rw [bnd (l01Power_ev h (by omega))]
   have hx' : p ^ ((level + 6).toNat + vl p den) ∣ x * (p ^ vl p den * ud) - p ^ vl p num * un * p ^ 6 := by
    rw [← hun, ← hud]; exact hx
   obtain ⟨h1, h2⟩ := of_high h l0 l1 hund hudd hx' (by omega) hfit' hid
   rw [h1, h2]
   simp only [Int.toNat_natCast]
   exact Ev.now _
theorem l01Of_no {p num den level : Int} (h : IsP p) (l0 : -6 ≤ level) (l1 : level ≤ 6) (hden : den ≠ 0) (hnum : num ≠ 0)
  (n0 : -4000000000000000000 ≤ num ∧ num ≤ 4000000000000000000) (d0 : -4000000000000000000 ≤ den ∧ den ≤ 4000000000000000000) (hfit : vl p num + 6 < vl p den) :
  Ev (fun k => spec_l01Of.f k p num den level) (0, 0, 0, false) := by
 unfold spec_l01Of.f
 simp only [l01In_eq, Option.bind_some, show (-6 ≤ level ∧ level ≤ 6) from ⟨l0, l1⟩, and_self, decide_true, if_true, if_neg hnum]
 have b1 := vl_le_62 h hnum (by omega) (by omega)
 have b2 := vl_le_62 h hden (by omega) (by omega)
 rw [bnd (l01Val_ev h hnum (by omega) (by omega)), bnd (l01Val_ev h hden (by omega) (by omega))]
 have e1 : wrap64 ((vl p num : Int) - vl p den) = (vl p num : Int) - vl p den := wrap_id (by omega) (by omega)
 have e2 : wrap64 ((vl p den : Int) - vl p num) = (vl p den : Int) - vl p num := wrap_id (by omega) (by omega)
 have e3 : mx ((vl p den : Int) - vl p num) 0 = ((vl p den - vl p num : Nat) : Int) := by unfold mx; split <;> omega
 simp only [e1, e2, e3, if_neg (show ¬ level ≤ (vl p num : Int) - vl p den by omega), if_pos (show ((vl p den - vl p num : Nat) : Int) > 6 by omega)]
 exact Ev.now _
theorem l01Of_out {p num den level : Int} (hl : ¬ (-6 ≤ level ∧ level ≤ 6)) : Ev (fun k => spec_l01Of.f k p num den level) (0, 0, 0, false) := by
 unfold spec_l01Of.f
 simp only [l01In_eq, Option.bind_some, hl, decide_false, if_neg Bool.false_ne_true]
 exact Ev.now _
theorem l01Of_pow {p t d level : Int} (h : IsP p) (hd : 0 ≤ d ∧ d ≤ 6) (n0 : -4000000000000000000 ≤ t ∧ t ≤ 4000000000000000000) :
  Ev (fun k => spec_l01Of.f k p t (p ^ d.toNat) level) (if -6 ≤ level ∧ level ≤ 6 then (level, ofMt p level (mk p t d), (ofMd p level (mk p t d) : Int), true) else (0, 0, 0, false)) := by
 by_cases hl : -6 ≤ level ∧ level ≤ 6
 ·rw [if_pos hl]
  have h0 := pow_pos' h d.toNat
  have h1 := pow_le_22 h (n := d.toNat) (by omega)
  refine l01Of_ev h hl.1 hl.2 (by omega) n0 (by omega) ?_ (.inr (by rw [vl_pow h]; omega))
  have e : mk p t d * p ^ d.toNat - t * p ^ 6 = 0 := by
   unfold mk
   rw [Int.mul_assoc, ← Int.pow_add]
   have : (6 - d).toNat + d.toNat = 6 := by omega
   rw [this]; omega
  rw [e]; exact Int.dvd_zero _
 ·rw [if_neg hl]
  exact l01Of_out hl
theorem ofMark_ev {p level x : Int} (h : IsP p) (hx : -4000000000000000000 ≤ x ∧ x ≤ 4000000000000000000) :
  Ev (fun k => impl_ofMark.f k p level x) (if -6 ≤ level ∧ level ≤ 6 then (level, ofMt p level x, (ofMd p level x : Int), true) else (0, 0, 0, false)) := by
 unfold impl_ofMark.f
 simp only [isLevel_eq, Option.bind_some]
 by_cases hl : -6 ≤ level ∧ level ≤ 6
 ·have e : wrap64 (level + 6) = level + 6 := wrap_id (by omega) (by omega)
  simp only [hl, and_self, decide_true, if_true, e]
  rw [bnd (power_ev h (by omega))]
  have h0 := pow_pos' h (level + 6).toNat
  have h1 := pow_le_seven h (m := (level + 6).toNat) (n := 12) (by omega)
  have e12 : (7 : Int) ^ 12 = 13841287201 := by decide
  simp only [mod_ev h0 (by omega), Option.bind_some]
  have y0 := Int.emod_nonneg x (Int.ne_of_gt h0)
  have y1 := Int.emod_lt_of_pos x h0
  rw [bnd (valuation_any h (by omega) (by omega))]
  have hvx : vx p (x % p ^ (level + 6).toNat) ≤ 1000 ∧ 0 ≤ vx p (x % p ^ (level + 6).toNat) := by
   unfold vx
   split
   ·omega
   ·rename_i hz
    have := vl_le_62 h hz (by omega) (by omega)
    omega
  have e2 : wrap64 (6 - vx p (x % p ^ (level + 6).toNat)) = 6 - vx p (x % p ^ (level + 6).toNat) := wrap_id (by omega) (by omega)
  have e3 : mx (6 - vx p (x % p ^ (level + 6).toNat)) 0 = (ofMd p level x : Int) := by
   unfold vx ofMd mx
   by_cases hz : x % p ^ (level + 6).toNat = 0
   ·simp only [if_pos hz]; omega
   ·simp only [if_neg hz]; split <;> omega
  have hd6 := ofMd_le p level x
  have e4 : wrap64 (6 - (ofMd p level x : Int)) = 6 - (ofMd p level x : Int) := wrap_id (by omega) (by omega)
  simp only [e2, e3, e4]
  rw [bnd (power_ev h (by omega))]
  have e5 : (6 - (ofMd p level x : Int)).toNat = 6 - ofMd p level x := by omega
  simp only [if_neg (pow_ne' h _), e5]
  have hq := tdiv_bounds (n := x % p ^ (level + 6).toNat) (m := p ^ (6 - ofMd p level x))
  rw [wrap_id (by omega) (by omega)]
  have e6 : Int.tdiv (x % p ^ (level + 6).toNat) (p ^ (6 - ofMd p level x)) = ofMt p level x := by
   unfold ofMt
   exact Int.tdiv_eq_ediv_of_nonneg y0
  rw [e6]
  exact Ev.now _
 ·simp only [hl, decide_false, if_neg Bool.false_ne_true, if_false]
  exact Ev.now _
def fitR (r : Int × Int × Int × Bool) : Int × Int × Int × Int := if r.2.2.2 = true then (r.1, r.2.1, r.2.2.1, 0) else (0, 0, 0, 3)
theorem fitted_eq (r : Int × Int × Int × Bool) : impl_fitted.f r.1 r.2.1 r.2.2.1 r.2.2.2 = some (fitR r) := by
 unfold impl_fitted.f fitR
 split <;> rfl
set_option maxRecDepth 100000 in
theorem len8_dec : ∀ n : Fin 256, 1 ≤ n.val → 1 ≤ (bt (⟨#[0, 1, 2, 2, 3, 3, 3, 3, 4, 4, 4, 4, 4, 4, 4, 4, 5, 5, 5, 5, 5, 5, 5, 5, 5, 5, 5, 5, 5, 5, 5, 5, 6, 6, 6, 6, 6, 6, 6, 6, 6, 6, 6, 6, 6, 6, 6, 6, 6, 6, 6, 6, 6, 6, 6, 6, 6, 6, 6, 6, 6, 6, 6, 6, 7, 7, 7, 7, 7, 7, 7, 7, 7, 7, 7, 7, 7, 7, 7, 7, 7, 7, 7, 7, 7, 7, 7, 7, 7, 7, 7, 7, 7, 7, 7, 7, 7, 7, 7, 7, 7, 7, 7, 7, 7, 7, 7, 7, 7, 7, 7, 7, 7, 7, 7, 7, 7, 7, 7, 7, 7, 7, 7, 7, 7, 7, 7, 7, 8, 8, 8, 8, 8, 8, 8, 8, 8, 8, 8, 8, 8, 8, 8, 8, 8, 8, 8, 8, 8, 8, 8, 8, 8, 8, 8, 8, 8, 8, 8, 8, 8, 8, 8, 8, 8, 8, 8, 8, 8, 8, 8, 8, 8, 8, 8, 8, 8, 8, 8, 8, 8, 8, 8, 8, 8, 8, 8, 8, 8, 8, 8, 8, 8, 8, 8, 8, 8, 8, 8, 8, 8, 8, 8, 8, 8, 8, 8, 8, 8, 8, 8, 8, 8, 8, 8, 8, 8, 8, 8, 8, 8, 8, 8, 8, 8, 8, 8, 8, 8, 8, 8, 8, 8, 8, 8, 8, 8, 8, 8, 8, 8, 8, 8, 8, 8, 8, 8, 8, 8, 8, 8, 8, 8, 8, 8, 8]⟩ : ByteArray) (n.val : Int)).toNat ∧ 0 ≤ bt (⟨#[0, 1, 2, 2, 3, 3, 3, 3, 4, 4, 4, 4, 4, 4, 4, 4, 5, 5, 5, 5, 5, 5, 5, 5, 5, 5, 5, 5, 5, 5, 5, 5, 6, 6, 6, 6, 6, 6, 6, 6, 6, 6, 6, 6, 6, 6, 6, 6, 6, 6, 6, 6, 6, 6, 6, 6, 6, 6, 6, 6, 6, 6, 6, 6, 7, 7, 7, 7, 7, 7, 7, 7, 7, 7, 7, 7, 7, 7, 7, 7, 7, 7, 7, 7, 7, 7, 7, 7, 7, 7, 7, 7, 7, 7, 7, 7, 7, 7, 7, 7, 7, 7, 7, 7, 7, 7, 7, 7, 7, 7, 7, 7, 7, 7, 7, 7, 7, 7, 7, 7, 7, 7, 7, 7, 7, 7, 7, 7, 8, 8, 8, 8, 8, 8, 8, 8, 8, 8, 8, 8, 8, 8, 8, 8, 8, 8, 8, 8, 8, 8, 8, 8, 8, 8, 8, 8, 8, 8, 8, 8, 8, 8, 8, 8, 8, 8, 8, 8, 8, 8, 8, 8, 8, 8, 8, 8, 8, 8, 8, 8, 8, 8, 8, 8, 8, 8, 8, 8, 8, 8, 8, 8, 8, 8, 8, 8, 8, 8, 8, 8, 8, 8, 8, 8, 8, 8, 8, 8, 8, 8, 8, 8, 8, 8, 8, 8, 8, 8, 8, 8, 8, 8, 8, 8, 8, 8, 8, 8, 8, 8, 8, 8, 8, 8, 8, 8, 8, 8, 8, 8, 8, 8, 8, 8, 8, 8, 8, 8, 8, 8, 8, 8, 8, 8, 8, 8]⟩ : ByteArray) (n.val : Int) ∧ (bt (⟨#[0, 1, 2, 2, 3, 3, 3, 3, 4, 4, 4, 4, 4, 4, 4, 4, 5, 5, 5, 5, 5, 5, 5, 5, 5, 5, 5, 5, 5, 5, 5, 5, 6, 6, 6, 6, 6, 6, 6, 6, 6, 6, 6, 6, 6, 6, 6, 6, 6, 6, 6, 6, 6, 6, 6, 6, 6, 6, 6, 6, 6, 6, 6, 6, 7, 7, 7, 7, 7, 7, 7, 7, 7, 7, 7, 7, 7, 7, 7, 7, 7, 7, 7, 7, 7, 7, 7, 7, 7, 7, 7, 7, 7, 7, 7, 7, 7, 7, 7, 7, 7, 7, 7, 7, 7, 7, 7, 7, 7, 7, 7, 7, 7, 7, 7, 7, 7, 7, 7, 7, 7, 7, 7, 7, 7, 7, 7, 7, 8, 8, 8, 8, 8, 8, 8, 8, 8, 8, 8, 8, 8, 8, 8, 8, 8, 8, 8, 8, 8, 8, 8, 8, 8, 8, 8, 8, 8, 8, 8, 8, 8, 8, 8, 8, 8, 8, 8, 8, 8, 8, 8, 8, 8, 8, 8, 8, 8, 8, 8, 8, 8, 8, 8, 8, 8, 8, 8, 8, 8, 8, 8, 8, 8, 8, 8, 8, 8, 8, 8, 8, 8, 8, 8, 8, 8, 8, 8, 8, 8, 8, 8, 8, 8, 8, 8, 8, 8, 8, 8, 8, 8, 8, 8, 8, 8, 8, 8, 8, 8, 8, 8, 8, 8, 8, 8, 8, 8, 8, 8, 8, 8, 8, 8, 8, 8, 8, 8, 8, 8, 8, 8, 8, 8, 8, 8, 8]⟩ : ByteArray) (n.val : Int)).toNat ≤ 8 ∧
  2 ^ ((bt (⟨#[0, 1, 2, 2, 3, 3, 3, 3, 4, 4, 4, 4, 4, 4, 4, 4, 5, 5, 5, 5, 5, 5, 5, 5, 5, 5, 5, 5, 5, 5, 5, 5, 6, 6, 6, 6, 6, 6, 6, 6, 6, 6, 6, 6, 6, 6, 6, 6, 6, 6, 6, 6, 6, 6, 6, 6, 6, 6, 6, 6, 6, 6, 6, 6, 7, 7, 7, 7, 7, 7, 7, 7, 7, 7, 7, 7, 7, 7, 7, 7, 7, 7, 7, 7, 7, 7, 7, 7, 7, 7, 7, 7, 7, 7, 7, 7, 7, 7, 7, 7, 7, 7, 7, 7, 7, 7, 7, 7, 7, 7, 7, 7, 7, 7, 7, 7, 7, 7, 7, 7, 7, 7, 7, 7, 7, 7, 7, 7, 8, 8, 8, 8, 8, 8, 8, 8, 8, 8, 8, 8, 8, 8, 8, 8, 8, 8, 8, 8, 8, 8, 8, 8, 8, 8, 8, 8, 8, 8, 8, 8, 8, 8, 8, 8, 8, 8, 8, 8, 8, 8, 8, 8, 8, 8, 8, 8, 8, 8, 8, 8, 8, 8, 8, 8, 8, 8, 8, 8, 8, 8, 8, 8, 8, 8, 8, 8, 8, 8, 8, 8, 8, 8, 8, 8, 8, 8, 8, 8, 8, 8, 8, 8, 8, 8, 8, 8, 8, 8, 8, 8, 8, 8, 8, 8, 8, 8, 8, 8, 8, 8, 8, 8, 8, 8, 8, 8, 8, 8, 8, 8, 8, 8, 8, 8, 8, 8, 8, 8, 8, 8, 8, 8, 8, 8, 8, 8]⟩ : ByteArray) (n.val : Int)).toNat - 1) ≤ n.val ∧ n.val < 2 ^ (bt (⟨#[0, 1, 2, 2, 3, 3, 3, 3, 4, 4, 4, 4, 4, 4, 4, 4, 5, 5, 5, 5, 5, 5, 5, 5, 5, 5, 5, 5, 5, 5, 5, 5, 6, 6, 6, 6, 6, 6, 6, 6, 6, 6, 6, 6, 6, 6, 6, 6, 6, 6, 6, 6, 6, 6, 6, 6, 6, 6, 6, 6, 6, 6, 6, 6, 7, 7, 7, 7, 7, 7, 7, 7, 7, 7, 7, 7, 7, 7, 7, 7, 7, 7, 7, 7, 7, 7, 7, 7, 7, 7, 7, 7, 7, 7, 7, 7, 7, 7, 7, 7, 7, 7, 7, 7, 7, 7, 7, 7, 7, 7, 7, 7, 7, 7, 7, 7, 7, 7, 7, 7, 7, 7, 7, 7, 7, 7, 7, 7, 8, 8, 8, 8, 8, 8, 8, 8, 8, 8, 8, 8, 8, 8, 8, 8, 8, 8, 8, 8, 8, 8, 8, 8, 8, 8, 8, 8, 8, 8, 8, 8, 8, 8, 8, 8, 8, 8, 8, 8, 8, 8, 8, 8, 8, 8, 8, 8, 8, 8, 8, 8, 8, 8, 8, 8, 8, 8, 8, 8, 8, 8, 8, 8, 8, 8, 8, 8, 8, 8, 8, 8, 8, 8, 8, 8, 8, 8, 8, 8, 8, 8, 8, 8, 8, 8, 8, 8, 8, 8, 8, 8, 8, 8, 8, 8, 8, 8, 8, 8, 8, 8, 8, 8, 8, 8, 8, 8, 8, 8, 8, 8, 8, 8, 8, 8, 8, 8, 8, 8, 8, 8, 8, 8, 8, 8, 8, 8]⟩ : ByteArray) (n.val : Int)).toNat := by decide +kernel
set_option maxRecDepth 100000 in
theorem len8_tab {i : Int} (h0 : 1 ≤ i) (h1 : i < 256) : ∃ l : Nat, bt (⟨#[0, 1, 2, 2, 3, 3, 3, 3, 4, 4, 4, 4, 4, 4, 4, 4, 5, 5, 5, 5, 5, 5, 5, 5, 5, 5, 5, 5, 5, 5, 5, 5, 6, 6, 6, 6, 6, 6, 6, 6, 6, 6, 6, 6, 6, 6, 6, 6, 6, 6, 6, 6, 6, 6, 6, 6, 6, 6, 6, 6, 6, 6, 6, 6, 7, 7, 7, 7, 7, 7, 7, 7, 7, 7, 7, 7, 7, 7, 7, 7, 7, 7, 7, 7, 7, 7, 7, 7, 7, 7, 7, 7, 7, 7, 7, 7, 7, 7, 7, 7, 7, 7, 7, 7, 7, 7, 7, 7, 7, 7, 7, 7, 7, 7, 7, 7, 7, 7, 7, 7, 7, 7, 7, 7, 7, 7, 7, 7, 8, 8, 8, 8, 8, 8, 8, 8, 8, 8, 8, 8, 8, 8, 8, 8, 8, 8, 8, 8, 8, 8, 8, 8, 8, 8, 8, 8, 8, 8, 8, 8, 8, 8, 8, 8, 8, 8, 8, 8, 8, 8, 8, 8, 8, 8, 8, 8, 8, 8, 8, 8, 8, 8, 8, 8, 8, 8, 8, 8, 8, 8, 8, 8, 8, 8, 8, 8, 8, 8, 8, 8, 8, 8, 8, 8, 8, 8, 8, 8, 8, 8, 8, 8, 8, 8, 8, 8, 8, 8, 8, 8, 8, 8, 8, 8, 8, 8, 8, 8, 8, 8, 8, 8, 8, 8, 8, 8, 8, 8, 8, 8, 8, 8, 8, 8, 8, 8, 8, 8, 8, 8, 8, 8, 8, 8, 8, 8]⟩ : ByteArray) i = l ∧ IsLen i l ∧ l ≤ 8 := by
 obtain ⟨n, rfl⟩ := Int.eq_ofNat_of_zero_le (show 0 ≤ i by omega)
 have h := len8_dec ⟨n, by omega⟩ (by simp only; omega)
 simp only at h
 refine ⟨_, (Int.toNat_of_nonneg h.2.1).symm, ⟨h.1, ?_, ?_⟩, h.2.2.1⟩
 ·have := h.2.2.2.1
  exact_mod_cast this
 ·have := h.2.2.2.2
  exact_mod_cast this
set_option maxRecDepth 100000 in
theorem Len64_j {x n : Int} (h0 : 1 ≤ x) (h1 : x < 4294967296) (hn : 0 ≤ n ∧ n ≤ 32) : ∃ l : Nat, Ev (fun k => bits_Len64.j0 k x n) (n + l) ∧ IsLen x l ∧ l ≤ 32 := by
 by_cases h16 : x ≥ 65536
 ·by_cases h8 : x / 65536 ≥ 256
  ·have e : x / 65536 / 256 % 256 = x / 65536 / 256 := by omega
   obtain ⟨l, hl, hi, hb⟩ := len8_tab (i := x / 65536 / 256) (by omega) (by omega)
   refine ⟨24 + l, ?_, ?_, by omega⟩
   ·refine Ev.step (fun k => by rw [bits_Len64.j0]) ?_
    simp only [if_pos h16, if_pos h8, e, if_pos (show 0 ≤ x / 65536 / 256 by omega), if_pos (show x / 65536 / 256 < 256 by omega), hl]
    rw [wrap_id (x := n + 16) (by omega) (by omega), wrap_id (x := n + 16 + 8) (by omega) (by omega), wrap_id (x := (l : Int)) (by omega) (by omega), wrap_id (by omega) (by omega)]
    exact ev_some (by omega)
   ·have e2 : x / 2 ^ 24 = x / 65536 / 256 := by omega
    refine IsLen.up 24 ?_
    rw [e2]; exact hi
  ·have e : x / 65536 % 256 = x / 65536 := by omega
   obtain ⟨l, hl, hi, hb⟩ := len8_tab (i := x / 65536) (by omega) (by omega)
   refine ⟨16 + l, ?_, ?_, by omega⟩
   ·refine Ev.step (fun k => by rw [bits_Len64.j0]) ?_
    simp only [if_pos h16, if_neg h8, e, if_pos (show 0 ≤ x / 65536 by omega), if_pos (show x / 65536 < 256 by omega), hl]
    rw [wrap_id (x := n + 16) (by omega) (by omega), wrap_id (x := (l : Int)) (by omega) (by omega), wrap_id (by omega) (by omega)]
    exact ev_some (by omega)
   ·refine IsLen.up 16 ?_
    exact hi
 ·by_cases h8 : x ≥ 256
  ·have e : x / 256 % 256 = x / 256 := by omega
   obtain ⟨l, hl, hi, hb⟩ := len8_tab (i := x / 256) (by omega) (by omega)
   refine ⟨8 + l, ?_, ?_, by omega⟩
   ·refine Ev.step (fun k => by rw [bits_Len64.j0]) ?_
    simp only [if_neg h16, if_pos h8, e, if_pos (show 0 ≤ x / 256 by omega), if_pos (show x / 256 < 256 by omega), hl]
    rw [wrap_id (x := n + 8) (by omega) (by omega), wrap_id (x := (l : Int)) (by omega) (by omega), wrap_id (by omega) (by omega)]
    exact ev_some (by omega)
   ·refine IsLen.up 8 ?_
    exact hi
  ·have e : x % 256 = x := by omega
   obtain ⟨l, hl, hi, hb⟩ := len8_tab (i := x) (by omega) (by omega)
   refine ⟨l, ?_, hi, by omega⟩
   refine Ev.step (fun k => by rw [bits_Len64.j0]) ?_
   simp only [if_neg h16, if_neg h8, e, if_pos (show 0 ≤ x by omega), if_pos (show x < 256 by omega), hl]
   rw [wrap_id (x := (l : Int)) (by omega) (by omega), wrap_id (by omega) (by omega)]
   exact Ev.now _
theorem Len64_ev {x : Int} (h0 : 1 ≤ x) (h1 : x < 18446744073709551616) : ∃ l : Nat, Ev (fun k => bits_Len64.f k x) l ∧ IsLen x l ∧ l ≤ 64 := by
 unfold bits_Len64.f
 by_cases h32 : x ≥ 4294967296
 ·obtain ⟨l, hl, hi, hb⟩ := Len64_j (x := x / 4294967296) (n := 32) (by omega) (by omega) (by omega)
  refine ⟨32 + l, ?_, IsLen.up 32 hi, by omega⟩
  simp only [if_pos h32]
  exact ev_eq hl (by omega)
 ·obtain ⟨l, hl, hi, hb⟩ := Len64_j (x := x) (n := 0) (by omega) (by omega) (by omega)
  refine ⟨l, ?_, hi, by omega⟩
  simp only [if_neg h32]
  exact ev_eq hl (by omega)
theorem Mul64_eq {a b : Int} (a0 : 0 ≤ a) (a1 : a < 18446744073709551616) (b0 : 0 ≤ b) (b1 : b < 18446744073709551616) : bits_Mul64.f a b = some (a * b / 18446744073709551616, a * b % 18446744073709551616) := by
 unfold bits_Mul64.f
 rw [u64_mask32 a0 a1, u64_mask32 b0 b1]
 have hah : 0 ≤ a / 4294967296 ∧ a / 4294967296 ≤ 4294967295 := by omega
 have hal : 0 ≤ a % 4294967296 ∧ a % 4294967296 ≤ 4294967295 := by omega
 have hbh : 0 ≤ b / 4294967296 ∧ b / 4294967296 ≤ 4294967295 := by omega
 have hbl : 0 ≤ b % 4294967296 ∧ b % 4294967296 ≤ 4294967295 := by omega
 have hab : a * b = (a / 4294967296) * (b / 4294967296) * 18446744073709551616 + ((a / 4294967296) * (b % 4294967296) + (a % 4294967296) * (b / 4294967296)) * 4294967296 + (a % 4294967296) * (b % 4294967296) := by
  have ea : a = 4294967296 * (a / 4294967296) + a % 4294967296 := by omega
  have eb : b = 4294967296 * (b / 4294967296) + b % 4294967296 := by omega
  generalize a / 4294967296 = x1 at *
  generalize a % 4294967296 = x0 at *
  generalize b / 4294967296 = y1 at *
  generalize b % 4294967296 = y0 at *
  rw [ea, eb]
  simp only [Int.add_mul, Int.mul_add]
  have e1 : 4294967296 * x1 * (4294967296 * y1) = x1 * y1 * 18446744073709551616 := by
   rw [show (18446744073709551616 : Int) = 4294967296 * 4294967296 by decide]
   simp only [Int.mul_assoc, Int.mul_comm, Int.mul_left_comm]
  have e2 : 4294967296 * x1 * y0 = x1 * y0 * 4294967296 := by rw [Int.mul_assoc, Int.mul_comm]
  have e3 : x0 * (4294967296 * y1) = x0 * y1 * 4294967296 := by rw [Int.mul_left_comm, Int.mul_comm]
  rw [e1, e2, e3]
  omega
 have bound : ∀ {x y : Int}, 0 ≤ x ∧ x ≤ 4294967295 → 0 ≤ y ∧ y ≤ 4294967295 → 0 ≤ x * y ∧ x * y ≤ 18446744065119617025 := by
  intro x y hx hy
  have a := Int.mul_le_mul hx.2 hy.2 hy.1 (by omega)
  exact ⟨Int.mul_nonneg hx.1 hy.1, by omega⟩
 have p11 := bound hah hbh
 have p10 := bound hah hbl
 have p01 := bound hal hbh
 have p00 := bound hal hbl
 generalize (a / 4294967296) * (b / 4294967296) = q11 at *
 generalize (a / 4294967296) * (b % 4294967296) = q10 at *
 generalize (a % 4294967296) * (b / 4294967296) = q01 at *
 generalize (a % 4294967296) * (b % 4294967296) = q00 at *
 rw [hab]
 have w1 : IntKind.u64.wrap q11 = q11 := wrapu_id (by omega) (by omega)
 have w2 : IntKind.u64.wrap q10 = q10 := wrapu_id (by omega) (by omega)
 have w3 : IntKind.u64.wrap q01 = q01 := wrapu_id (by omega) (by omega)
 have w4 : IntKind.u64.wrap q00 = q00 := wrapu_id (by omega) (by omega)
 rw [w1, w2, w3, w4]
 have w5 : IntKind.u64.wrap (q10 + q00 / 4294967296) = q10 + q00 / 4294967296 := wrapu_id (by omega) (by omega)
 rw [w5, u64_mask32 (by omega) (by omega)]
 have w6 : IntKind.u64.wrap ((q10 + q00 / 4294967296) % 4294967296 + q01) = (q10 + q00 / 4294967296) % 4294967296 + q01 := wrapu_id (by omega) (by omega)
 have w7 : IntKind.u64.wrap (q11 + (q10 + q00 / 4294967296) / 4294967296) = q11 + (q10 + q00 / 4294967296) / 4294967296 := wrapu_id (by omega) (by omega)
 rw [w6, w7, wrapu, wrapu]
 congr 2
 omega
theorem Div64_l0 {Y s y1 y0 u v w : Int} {R : Int × Int} (hy : Y = y1 * 4294967296 + y0) (hy1 : 2147483648 ≤ y1) (hy1' : y1 < 4294967296) (hy0 : 0 ≤ y0) (hy0' : y0 < 4294967296) (huY : u < Y) (hv : 0 ≤ v) (hv' : v < 4294967296)
  (hend : Ev (fun k => bits_Div64.j2 k Y s y1 y0 u v w ((u * 4294967296 + v) / Y)) R) : ∀ (n : Nat) (q r : Int), (4294967296 - r).toNat ≤ n → Guess Y y1 u (u * 4294967296 + v) q r → Ev (fun k => bits_Div64.l0 k Y s y1 y0 u v w q r) R := by
 have hY : 0 < Y := by omega
 intro n
 induction n with
 | zero => intro q r hn hg; obtain ⟨_, _, h3, h4, _⟩ := hg; omega
 | succ n ih =>
  intro q r hn hg
  have hg' := hg
  obtain ⟨g1, g2, g3, g4, g5, g6⟩ := hg'
  have go : ∀ b : Bool, (b = true ↔ 4294967296 ≤ q ∨ 4294967296 * r + v < q * y0) → Ev (fun k => bits_Div64.j1 k Y s y1 y0 u v w q r b) R := by
   intro b hb
   refine Ev.step (fun k => by rw [bits_Div64.j1]) ?_
   by_cases hc : 4294967296 ≤ q ∨ 4294967296 * r + v < q * y0
   ·obtain ⟨d1, d2, d3⟩ := guess_down hy hY huY hv hv' hg hc
    rw [wrapu_id (n := r + y1) (by omega) (by omega), wrapu_id (n := q - 1) (by omega) (by omega)]
    simp only [hb.2 hc, if_true]
    by_cases hr : r + y1 ≥ 4294967296
    ·simp only [if_pos hr]
     have hstop : q - 1 = (u * 4294967296 + v) / Y := by
      have h3 : q - 1 ≤ (u * 4294967296 + v) / Y := by
       rw [Int.le_ediv_iff_mul_le hY, hy, Int.mul_add, ← Int.mul_assoc]
       have h4 : (q - 1) * y0 ≤ 4294967296 * 4294967295 := Int.mul_le_mul (by omega) (by omega) hy0 (by omega)
       omega
      omega
     rw [hstop]; exact hend
    ·simp only [if_neg hr]
     exact ih (q - 1) (r + y1) (by omega) ⟨d2, d1, by omega, by omega, by omega, by omega⟩
   ·have hbf : b = false := by cases b with
     | true => exact absurd (hb.1 rfl) hc
     | false => rfl
    simp only [hbf, if_neg Bool.false_ne_true]
    have := guess_stop hy hY hg (by omega)
    rw [this]; exact hend
  refine Ev.step (fun k => by rw [bits_Div64.l0]) ?_
  by_cases hq : q ≥ 4294967296
  ·simp only [if_pos hq]
   exact go _ (by simp; omega)
  ·simp only [if_neg hq]
   have hqy : 0 ≤ q * y0 ∧ q * y0 ≤ 4294967295 * 4294967295 := ⟨Int.mul_nonneg g5 hy0, Int.mul_le_mul (by omega) (by omega) hy0 (by omega)⟩
   rw [wrapu_id (n := q * y0) (by omega) (by omega), wrapu_id (n := 4294967296 * r) (by omega) (by omega), wrapu_id (n := 4294967296 * r + v) (by omega) (by omega)]
   exact go _ (by simp; omega)
theorem Div64_l1 {Y y1 y0 u v q1 : Int} {s : Nat} (hs : s ≤ 64) (hy : Y = y1 * 4294967296 + y0) (hy1 : 2147483648 ≤ y1) (hy1' : y1 < 4294967296) (hy0 : 0 ≤ y0) (hy0' : y0 < 4294967296) (hu : 0 ≤ u) (huY : u < Y) (hv : 0 ≤ v) (hv' : v < 4294967296)
  (hq1 : 0 ≤ q1) (hq1' : q1 < 4294967296) : ∀ (n : Nat) (q r : Int), (4294967296 - r).toNat ≤ n → Guess Y y1 u (u * 4294967296 + v) q r →
  Ev (fun k => bits_Div64.l1 k Y s y1 y0 v q1 r u q) (q1 * 4294967296 + (u * 4294967296 + v) / Y, (u * 4294967296 + v) % Y / 2 ^ s) := by
 have hY : 0 < Y := by omega
 have hlast : ∀ q : Int, q = (u * 4294967296 + v) / Y → IntKind.u64.wrap (IntKind.u64.wrap (q1 * 4294967296) + q) = q1 * 4294967296 + (u * 4294967296 + v) / Y ∧
   shr .u64 (IntKind.u64.wrap (IntKind.u64.wrap (IntKind.u64.wrap (u * 4294967296) + v) - IntKind.u64.wrap (q * Y))) s = (u * 4294967296 + v) % Y / 2 ^ s := by
  intro q hq
  have hqr := quot_rem (n := u * 4294967296 + v) hY
  have hr0 := Int.emod_nonneg (u * 4294967296 + v) (Int.ne_of_gt hY)
  have hr1 := Int.emod_lt_of_pos (u * 4294967296 + v) hY
  have hq0 : 0 ≤ (u * 4294967296 + v) / Y := Int.ediv_nonneg (by omega) (by omega)
  have hqlt : (u * 4294967296 + v) / Y < 4294967296 := by rw [Int.ediv_lt_iff_lt_mul hY]; omega
  rw [shr_u64 hs]
  constructor
  ·rw [wrapu_id (n := q1 * 4294967296) (by omega) (by omega), wrapu_id (by omega) (by omega), hq]
  ·congr 1
   rw [hq]
   simp only [wrapu]
   generalize (u * 4294967296 + v) / Y * Y = P at *
   generalize (u * 4294967296 + v) % Y = Q at *
   omega
 intro n
 induction n with
 | zero => intro q r hn hg; obtain ⟨_, _, h3, h4, _⟩ := hg; omega
 | succ n ih =>
  intro q r hn hg
  have hg' := hg
  obtain ⟨g1, g2, g3, g4, g5, g6⟩ := hg'
  have hs0 : (0 : Int) ≤ (s : Int) := Int.natCast_nonneg s
  have go : ∀ b : Bool, (b = true ↔ 4294967296 ≤ q ∨ 4294967296 * r + v < q * y0) → Ev (fun k => bits_Div64.j4 k Y s y1 y0 v q1 r u q b) (q1 * 4294967296 + (u * 4294967296 + v) / Y, (u * 4294967296 + v) % Y / 2 ^ s) := by
   intro b hb
   refine Ev.step (fun k => by rw [bits_Div64.j4]) ?_
   by_cases hc : 4294967296 ≤ q ∨ 4294967296 * r + v < q * y0
   ·obtain ⟨d1, d2, d3⟩ := guess_down hy hY huY hv hv' hg hc
    rw [wrapu_id (n := r + y1) (by omega) (by omega), wrapu_id (n := q - 1) (by omega) (by omega)]
    simp only [hb.2 hc, if_true]
    by_cases hr : r + y1 ≥ 4294967296
    ·simp only [if_pos hr, if_pos hs0]
     have hstop : q - 1 = (u * 4294967296 + v) / Y := by
      have h3 : q - 1 ≤ (u * 4294967296 + v) / Y := by
       rw [Int.le_ediv_iff_mul_le hY, hy, Int.mul_add, ← Int.mul_assoc]
       have h4 : (q - 1) * y0 ≤ 4294967296 * 4294967295 := Int.mul_le_mul (by omega) (by omega) hy0 (by omega)
       omega
      omega
     obtain ⟨l1, l2⟩ := hlast (q - 1) hstop
     rw [l1, l2]
     exact Ev.now _
    ·simp only [if_neg hr]
     exact ih (q - 1) (r + y1) (by omega) ⟨d2, d1, by omega, by omega, by omega, by omega⟩
   ·have hbf : b = false := by cases b with
     | true => exact absurd (hb.1 rfl) hc
     | false => rfl
    simp only [hbf, if_neg Bool.false_ne_true, if_pos hs0]
    have hstop := guess_stop hy hY hg (by omega)
    obtain ⟨l1, l2⟩ := hlast q hstop
    rw [l1, l2]
    exact Ev.now _
  refine Ev.step (fun k => by rw [bits_Div64.l1]) ?_
  by_cases hq : q ≥ 4294967296
  ·simp only [if_pos hq]
   exact go _ (by simp; omega)
  ·simp only [if_neg hq]
   have hqy : 0 ≤ q * y0 ∧ q * y0 ≤ 4294967295 * 4294967295 := ⟨Int.mul_nonneg g5 hy0, Int.mul_le_mul (by omega) (by omega) hy0 (by omega)⟩
   rw [wrapu_id (n := q * y0) (by omega) (by omega), wrapu_id (n := 4294967296 * r) (by omega) (by omega), wrapu_id (n := 4294967296 * r + v) (by omega) (by omega)]
   exact go _ (by simp; omega)
theorem Div64_ev {hi lo y : Int} (h0 : 0 ≤ hi) (h1 : hi < y) (hy : y < 18446744073709551616) (l0 : 0 ≤ lo) (l1 : lo < 18446744073709551616) :
  Ev (fun k => bits_Div64.f k hi lo y) ((hi * 18446744073709551616 + lo) / y, (hi * 18446744073709551616 + lo) % y) := by
 unfold bits_Div64.f
 simp only [if_neg (show ¬ y = 0 by omega), if_neg (show ¬ y ≤ hi by omega)]
 by_cases hz : hi = 0
 ·simp only [if_pos hz]
  refine ev_some ?_
  rw [hz, Int.zero_mul, Int.zero_add, Int.tdiv_eq_ediv_of_nonneg l0, Int.tmod_eq_emod_of_nonneg l0, wrapu_id (Int.ediv_nonneg l0 (by omega))]
  have := Int.ediv_le_self y l0
  omega
 ·obtain ⟨L, hL, ⟨i1, i2, i3⟩, hL64⟩ := Len64_ev (x := y) (by omega) hy
  have hlz : Ev (fun k => bits_LeadingZeros64.f k y) ((64 - L : Nat) : Int) := by
   unfold bits_LeadingZeros64.f
   rw [bnd hL]
   exact ev_some (by rw [wrap_id (by omega) (by omega)]; omega)
  simp only [if_neg hz]
  rw [bnd hlz]
  generalize hs : 64 - L = s
  have hs64 : s ≤ 63 := by omega
  have eL : L = 64 - s := by omega
  subst eL
  have w1 : IntKind.u64.wrap ((s : Nat) : Int) = s := wrapu_id (by omega) (by omega)
  have w2 : IntKind.u64.wrap (64 - (s : Int)) = ((64 - s : Nat) : Int) := by rw [wrapu_id (by omega) (by omega)]; omega
  simp only [w1, w2]
  rw [shl_u64 (x := y) (by omega), shl_u64 (x := hi) (by omega), shl_u64 (x := lo) (by omega), shr_u64 (x := lo) (s := 64 - s) (by omega)]
  have hS := two_pow_pos' s
  have hT := two_pow_pos' (64 - s)
  have hST : (2 : Int) ^ (64 - s) * 2 ^ s = 18446744073709551616 := by
   rw [← Int.pow_add]
   have : 64 - s + s = 64 := by omega
   rw [this]; decide
  have hST1 : (2 : Int) ^ (64 - s - 1) * 2 ^ s = 9223372036854775808 := by
   rw [← Int.pow_add]
   have : 64 - s - 1 + s = 63 := by omega
   rw [this]; decide
  have hY1 : y * 2 ^ s < 18446744073709551616 := by rw [← hST]; exact Int.mul_lt_mul_of_pos_right i3 hS
  have hY0 : 9223372036854775808 ≤ y * 2 ^ s := by rw [← hST1]; exact Int.mul_le_mul_of_nonneg_right i2 (Int.le_of_lt hS)
  have hH0 : 0 ≤ hi * 2 ^ s := Int.mul_nonneg h0 (Int.le_of_lt hS)
  have hH1 : hi * 2 ^ s + 2 ^ s ≤ y * 2 ^ s := by
   have := Int.mul_le_mul_of_nonneg_right (show hi + 1 ≤ y by omega) (Int.le_of_lt hS)
   rw [Int.add_mul, Int.one_mul] at this
   exact this
  have eY : y * 2 ^ s % 18446744073709551616 = y * 2 ^ s := Int.emod_eq_of_lt (by omega) hY1
  have eH : hi * 2 ^ s % 18446744073709551616 = hi * 2 ^ s := Int.emod_eq_of_lt hH0 (by omega)
  have hq0 : 0 ≤ lo / 2 ^ (64 - s) := Int.ediv_nonneg l0 (Int.le_of_lt hT)
  have hq1 : lo / 2 ^ (64 - s) < 2 ^ s := by
   rw [Int.ediv_lt_iff_lt_mul hT, Int.mul_comm, hST]; exact l1
  rw [eY, eH, or_u64 (s := s) (by omega) hH0 (Int.dvd_mul_left _ _) (by omega) hq0 hq1 (by omega)]
  rw [u64_mask32 (x := y * 2 ^ s) (by omega) hY1]
  have hlo := Int.emod_nonneg (lo * 2 ^ s) (show (18446744073709551616 : Int) ≠ 0 by decide)
  have hlo1 := Int.emod_lt_of_pos (lo * 2 ^ s) (show (0 : Int) < 18446744073709551616 by decide)
  rw [u64_mask32 (x := lo * 2 ^ s % 18446744073709551616) hlo hlo1]
  have hV : (hi * 18446744073709551616 + lo) * 2 ^ s = (hi * 2 ^ s + lo / 2 ^ (64 - s)) * 18446744073709551616 + lo * 2 ^ s % 18446744073709551616 := by
   have a1 : lo * 2 ^ s / 18446744073709551616 = lo / 2 ^ (64 - s) := by
    rw [← hST]; exact Int.mul_ediv_mul_of_pos_left lo _ hS
   have a2 := Int.mul_ediv_add_emod (lo * 2 ^ s) 18446744073709551616
   rw [a1] at a2
   rw [Int.add_mul, Int.add_mul, Int.mul_right_comm]
   omega
  have hw : lo * 2 ^ s % 18446744073709551616 = lo * 2 ^ s % 18446744073709551616 / 4294967296 * 4294967296 + lo * 2 ^ s % 18446744073709551616 % 4294967296 := by omega
  obtain ⟨t1, t2⟩ := two_digits hS (show 0 < y by omega) hV hw
  have v10 : 0 ≤ lo * 2 ^ s % 18446744073709551616 / 4294967296 ∧ lo * 2 ^ s % 18446744073709551616 / 4294967296 < 4294967296 := by omega
  have v00 : 0 ≤ lo * 2 ^ s % 18446744073709551616 % 4294967296 ∧ lo * 2 ^ s % 18446744073709551616 % 4294967296 < 4294967296 := by omega
  have u0 : 0 ≤ hi * 2 ^ s + lo / 2 ^ (64 - s) ∧ hi * 2 ^ s + lo / 2 ^ (64 - s) < y * 2 ^ s := by omega
  generalize lo * 2 ^ s % 18446744073709551616 / 4294967296 = v1 at *
  generalize lo * 2 ^ s % 18446744073709551616 % 4294967296 = v0 at *
  generalize hi * 2 ^ s + lo / 2 ^ (64 - s) = u at *
  generalize hYY : y * 2 ^ s = Y at *
  have hy1a : 2147483648 ≤ Y / 4294967296 ∧ Y / 4294967296 < 4294967296 := by omega
  have hy0a : 0 ≤ Y % 4294967296 ∧ Y % 4294967296 < 4294967296 := by omega
  have hYs : Y = Y / 4294967296 * 4294967296 + Y % 4294967296 := by omega
  have hY : 0 < Y := by omega
  simp only [if_pos (show (0 : Int) ≤ (s : Int) by omega), if_pos (show (0 : Int) ≤ ((64 - s : Nat) : Int) by omega), if_neg (show ¬ Y / 4294967296 = 0 by omega)]
  rw [Int.tdiv_eq_ediv_of_nonneg u0.1]
  have g1 := guess_first hYs hy1a.1 hy1a.2 hy0a.1 hy0a.2 u0.1 u0.2 v10.1 v10.2
  have hdm : 0 ≤ u / (Y / 4294967296) * (Y / 4294967296) ∧ u / (Y / 4294967296) * (Y / 4294967296) ≤ u := by
   obtain ⟨ga, _, gc, _, ge, _⟩ := g1
   exact ⟨Int.mul_nonneg ge (by omega), by omega⟩
  have gb := g1
  obtain ⟨_, _, gc, gd, ge, gf⟩ := gb
  rw [wrapu_id (n := u / (Y / 4294967296)) (by omega) (by omega), wrapu_id (n := u / (Y / 4294967296) * (Y / 4294967296)) (by omega) (by omega), wrapu_id (n := u - u / (Y / 4294967296) * (Y / 4294967296)) (by omega) (by omega)]
  refine Div64_l0 hYs hy1a.1 hy1a.2 hy0a.1 hy0a.2 u0.2 v10.1 v10.2 ?_ _ _ _ (Nat.le_refl _) g1
  refine Ev.step (fun k => by rw [bits_Div64.j2]) ?_
  simp only [if_neg (show ¬ Y / 4294967296 = 0 by omega)]
  have hqr := quot_rem (n := u * 4294967296 + v1) hY
  have hr0 := Int.emod_nonneg (u * 4294967296 + v1) (Int.ne_of_gt hY)
  have hr1 := Int.emod_lt_of_pos (u * 4294967296 + v1) hY
  have hd0 : 0 ≤ (u * 4294967296 + v1) / Y := Int.ediv_nonneg (by omega) (by omega)
  have hd1 : (u * 4294967296 + v1) / Y < 4294967296 := by rw [Int.ediv_lt_iff_lt_mul hY]; omega
  have e21 : IntKind.u64.wrap (IntKind.u64.wrap (IntKind.u64.wrap (u * 4294967296) + v1) - IntKind.u64.wrap ((u * 4294967296 + v1) / Y * Y)) = (u * 4294967296 + v1) % Y := by
   simp only [wrapu]
   generalize (u * 4294967296 + v1) / Y * Y = P at *
   generalize (u * 4294967296 + v1) % Y = Q at *
   omega
  rw [e21]
  generalize (u * 4294967296 + v1) % Y = u2 at *
  generalize (u * 4294967296 + v1) / Y = q1 at *
  rw [Int.tdiv_eq_ediv_of_nonneg hr0]
  have g2 := guess_first hYs hy1a.1 hy1a.2 hy0a.1 hy0a.2 hr0 hr1 v00.1 v00.2
  have gb2 := g2
  obtain ⟨_, _, gc2, gd2, ge2, gf2⟩ := gb2
  have hdm2 : 0 ≤ u2 / (Y / 4294967296) * (Y / 4294967296) ∧ u2 / (Y / 4294967296) * (Y / 4294967296) ≤ u2 := ⟨Int.mul_nonneg ge2 (by omega), by omega⟩
  rw [wrapu_id (n := u2 / (Y / 4294967296)) (by omega) (by omega), wrapu_id (n := u2 / (Y / 4294967296) * (Y / 4294967296)) (by omega) (by omega), wrapu_id (n := u2 - u2 / (Y / 4294967296) * (Y / 4294967296)) (by omega) (by omega)]
  have hfin := Div64_l1 (s := s) (by omega) hYs hy1a.1 hy1a.2 hy0a.1 hy0a.2 hr0 hr1 v00.1 v00.2 hd0 hd1 _ _ _ (Nat.le_refl _) g2
  rw [t1, t2] at hfin
  exact hfin
theorem times_ev {a b m : Int} (h0 : 0 < m) (h1 : m ≤ 4611686018427387904) : Ev (fun k => impl_times.f k a b m) (a * b % m) := by
 unfold impl_times.f
 have a0 := Int.emod_nonneg a (Int.ne_of_gt h0)
 have a1 := Int.emod_lt_of_pos a h0
 have b0 := Int.emod_nonneg b (Int.ne_of_gt h0)
 have b1 := Int.emod_lt_of_pos b h0
 simp only [mod_ev h0 h1, Option.bind_some]
 rw [wrapu_id (n := a % m) a0 (by omega), wrapu_id (n := b % m) b0 (by omega), wrapu_id (n := m) (by omega) (by omega)]
 simp only [Mul64_eq a0 (show a % m < 18446744073709551616 by omega) b0 (show b % m < 18446744073709551616 by omega), Option.bind_some, if_neg (Int.ne_of_gt h0)]
 have p0 : 0 ≤ a % m * (b % m) := Int.mul_nonneg a0 b0
 have hd0 : 0 ≤ a % m * (b % m) / 18446744073709551616 := Int.ediv_nonneg p0 (by decide)
 rw [Int.tmod_eq_emod_of_nonneg hd0]
 have r0 := Int.emod_nonneg (a % m * (b % m) / 18446744073709551616) (Int.ne_of_gt h0)
 have r1 := Int.emod_lt_of_pos (a % m * (b % m) / 18446744073709551616) h0
 have s0 := Int.emod_nonneg (a % m * (b % m)) (show (18446744073709551616 : Int) ≠ 0 by decide)
 have s1 := Int.emod_lt_of_pos (a % m * (b % m)) (show (0 : Int) < 18446744073709551616 by decide)
 rw [bnd (Div64_ev r0 r1 (by omega) s0 s1)]
 have e : (a % m * (b % m) / 18446744073709551616 % m * 18446744073709551616 + a % m * (b % m) % 18446744073709551616) % m = a * b % m := by
  rw [Int.add_emod, mul_emod_left, ← Int.add_emod]
  have : a % m * (b % m) / 18446744073709551616 * 18446744073709551616 + a % m * (b % m) % 18446744073709551616 = a % m * (b % m) := by
   have := Int.mul_ediv_add_emod (a % m * (b % m)) 18446744073709551616
   omega
  rw [this, ← Int.mul_emod]
 have t0 := Int.emod_nonneg (a * b) (Int.ne_of_gt h0)
 have t1 := Int.emod_lt_of_pos (a * b) h0
 refine ev_some ?_
 simp only
 rw [e, wrap_id (by omega) (by omega)]
def hasV (p u m d x y : Int) : Bool := decide (y % p ^ d.toNat = 0) && decide (y / p ^ d.toNat * m % p ^ u.toNat = x % p ^ u.toNat)
theorem hasVector_ev {p u m d x y : Int} (hp : IsP p) (h : Lat p u m d) (hy : -4000000000000000000 ≤ y ∧ y ≤ 4000000000000000000) : Ev (fun k => impl_hasVector.f k p u m d x y) (hasV p u m d x y) := by
 unfold impl_hasVector.f hasV
 have hr : u ≤ 12 ∧ d ≤ 12 := by unfold Lat at h; omega
 have h7 := pow_le_seven hp (m := u.toNat) (n := 12) (by omega)
 have e12 : (7 : Int) ^ 12 = 13841287201 := by decide
 have hu := pow_pos' hp u.toNat
 have hd := pow_pos' hp d.toNat
 rw [bnd (power_ev hp (by omega)), bnd (power_ev hp (by omega))]
 simp only [if_neg (pow_ne' hp _)]
 by_cases h0 : p ^ d.toNat ∣ y
 ·have hq := tdiv_bounds (n := y) (m := p ^ d.toNat)
  have e1 : Int.tdiv y (p ^ d.toNat) = y / p ^ d.toNat := Int.tdiv_eq_ediv_of_dvd h0
  rw [e1] at hq
  simp only [if_pos (tmod_zero_iff.2 h0), mod_ev hu (show p ^ u.toNat ≤ 4611686018427387904 by omega), Option.bind_some, e1]
  rw [wrap_id (x := y / p ^ d.toNat) (by omega) (by omega), bnd (times_ev hu (by omega))]
  refine ev_some ?_
  rw [decide_eq_true (Int.emod_eq_zero_of_dvd h0), Bool.true_and]
  rw [Bool.eq_iff_iff]
  simp only [beq_iff_eq, decide_eq_true_eq]
  exact ⟨fun h => h.symm, fun h => h.symm⟩
 ·have h1 : ¬ Int.tmod y (p ^ d.toNat) = 0 := fun e => h0 (tmod_zero_iff.1 e)
  have h2 : ¬ y % p ^ d.toNat = 0 := fun e => h0 (Int.dvd_of_emod_eq_zero e)
  simp only [if_neg h1]
  exact ev_some (by simp [h2])
theorem l03Vector_ev {p u m d x y : Int} (hp : IsP p) (h : Lat p u m d) (hx : -4000000000000000000 ≤ x ∧ x ≤ 4000000000000000000) (hy : -4000000000000000000 ≤ y ∧ y ≤ 4000000000000000000) : Ev (fun k => spec_l03Vector.f k p u m d x y) (hasV p u m d x y) := by
 unfold spec_l03Vector.f hasV
 have hr : u ≤ 12 ∧ d ≤ 12 := by unfold Lat at h; omega
 have h7 := pow_le_seven hp (m := u.toNat) (n := 12) (by omega)
 have e12 : (7 : Int) ^ 12 = 13841287201 := by decide
 have hu := pow_pos' hp u.toNat
 have hd := pow_pos' hp d.toNat
 rw [bnd (l01Power_ev hp (by omega))]
 simp only [if_neg (pow_ne' hp _)]
 by_cases h0 : p ^ d.toNat ∣ y
 ·have hq := tdiv_bounds (n := y) (m := p ^ d.toNat)
  have e1 : Int.tdiv y (p ^ d.toNat) = y / p ^ d.toNat := Int.tdiv_eq_ediv_of_dvd h0
  rw [e1] at hq
  simp only [if_pos (tmod_zero_iff.2 h0), e1]
  rw [bnd (l01Power_ev hp (by omega)), wrap_id (x := y / p ^ d.toNat) (by omega) (by omega)]
  have hb := mod_between (n := x) hu
  simp only [l01MulMod_eq hu (show p ^ u.toNat ≤ 100000000000 by omega), Option.bind_some, if_neg (pow_ne' hp _)]
  rw [wrap_id (x := Int.tmod x (p ^ u.toNat) + p ^ u.toNat) (by omega) (by omega), mod_eq hu]
  refine ev_some ?_
  rw [decide_eq_true (Int.emod_eq_zero_of_dvd h0), Bool.true_and]
  rfl
 ·have h1 : ¬ Int.tmod y (p ^ d.toNat) = 0 := fun e => h0 (tmod_zero_iff.1 e)
  have h2 : ¬ y % p ^ d.toNat = 0 := fun e => h0 (Int.dvd_of_emod_eq_zero e)
  simp only [if_neg h1]
  exact ev_some (by simp [h2])
def HoldsVR (p u m d x y : Int) : Bool × Int := if IsP p ∧ Lat p u m d then (if (-1000000 ≤ x ∧ x ≤ 1000000) ∧ -1000000 ≤ y ∧ y ≤ 1000000 then (hasV p u m d x y, 0) else (false, 2)) else (false, 1)
theorem implHoldsVector_ev {p u m d x y : Int} : Ev (fun k => impl_HoldsVector.f k p u m d x y) (HoldsVR p u m d x y) := by
 unfold impl_HoldsVector.f HoldsVR
 rw [bnd IsLattice_ev]
 by_cases h : IsP p ∧ Lat p u m d
 ·simp only [h, and_self, decide_true, if_true]
  rw [bnd (within2 (by omega) (by omega))]
  by_cases h1 : (-1000000 ≤ x ∧ x ≤ 1000000) ∧ -1000000 ≤ y ∧ y ≤ 1000000
  ·simp only [h1, and_self, decide_true, if_true]
   rw [bnd (hasVector_ev h.1 h.2 (by omega))]
   exact Ev.now _
  ·simp only [h1, decide_false, if_neg Bool.false_ne_true, if_false]; exact Ev.now _
 ·simp only [h, decide_false, if_neg Bool.false_ne_true, if_false]; exact Ev.now _
theorem specHoldsVector_ev {p u m d x y : Int} : Ev (fun k => spec_HoldsVector.f k p u m d x y) (HoldsVR p u m d x y) := by
 unfold spec_HoldsVector.f HoldsVR
 rw [bnd l03Code1]
 by_cases h : IsP p ∧ Lat p u m d
 ·simp only [h, and_self, if_true, l01In_eq, Option.bind_some]
  by_cases h1 : -1000000 ≤ x ∧ x ≤ 1000000
  ·by_cases h2 : -1000000 ≤ y ∧ y ≤ 1000000
   ·simp only [h1, h2, and_self, decide_true, if_true]
    rw [bnd (l03Vector_ev h.1 h.2 (by omega) (by omega))]
    exact Ev.now _
   ·simp only [h1, h2, and_self, and_false, decide_true, decide_false, if_true, if_false, if_neg Bool.false_ne_true]; exact Ev.now _
  ·simp only [h1, false_and, decide_false, if_neg Bool.false_ne_true, if_false]; exact Ev.now _
 ·simp only [h, if_false, if_neg (show ¬ (1 : Int) = 0 by omega)]; exact Ev.now _
theorem inverse_l {n m : Int} (hm : 0 < m) (hm' : m ≤ 1000000000000) : ∀ (k : Nat) (a b : Nat) (x y : Int), b ≤ k → Euc n m a b x y → (a : Int) ≤ 1000000000000 → (b : Int) ≤ 1000000000000 →
  ∃ r, Ev (fun k => impl_inverse.l0 k m a b x y) r ∧ 0 ≤ r ∧ r < m ∧ m ∣ r * n - 1 := by
 intro k
 induction k with
 | zero =>
  intro a b x y hb he ha1 hb1
  obtain rfl : b = 0 := by omega
  have hl := he.last
  have hbd := he.bounds
  refine ⟨x % m, ?_, Int.emod_nonneg _ (Int.ne_of_gt hm), Int.emod_lt_of_pos _ hm, ?_⟩
  ·refine Ev.step (fun k => by rw [impl_inverse.l0]) ?_
   simp only [Int.natCast_zero, if_true, mod_ev hm (show m ≤ 4611686018427387904 by omega), Option.bind_some]
   exact Ev.now _
  ·have h1 := dvd_emod_sub x m
   have h2 : x % m * n - 1 = (x % m - x) * n + (x * n - 1) := by rw [Int.sub_mul]; omega
   rw [h2]
   exact Int.dvd_add (Int.dvd_trans h1 (Int.dvd_mul_right _ _)) hl
 | succ k ih =>
  intro a b x y hb he ha1 hb1
  by_cases hz : b = 0
  ·exact ih a b x y (by omega) he ha1 hb1
  ·have hnx := he.next (by omega)
   obtain ⟨r, hr, h0, h1, h2⟩ := ih b (a % b) y (x - (a / b : Nat) * y) (by have := Nat.mod_lt a (show 0 < b by omega); omega) hnx hb1 (by have := Nat.mod_lt a (show 0 < b by omega); omega)
   refine ⟨r, ?_, h0, h1, h2⟩
   refine Ev.step (fun k => by rw [impl_inverse.l0]) ?_
   suffices hs : wrap64 (Int.tdiv (a : Int) b) = (a / b : Nat) ∧ wrap64 ((a : Int) - wrap64 ((a / b : Nat) * (b : Int))) = (a % b : Nat) ∧ wrap64 (x - wrap64 ((a / b : Nat) * y)) = x - (a / b : Nat) * y by
    simp only [if_neg (show ¬ (b : Int) = 0 by omega), hs.1, hs.2.1, hs.2.2]
    exact hr
   have hbd := he.bounds
   have hbd2 := hnx.bounds
   have eq : Int.tdiv (a : Int) b = (a / b : Nat) := by rw [Int.tdiv_eq_ediv_of_nonneg (by omega), Int.natCast_ediv]
   have hdm := Nat.div_add_mod a b
   have hle := Nat.div_le_self a b
   have hmod := Nat.mod_le a b
   have hprod : ((a / b : Nat) : Int) * b = a - (a % b : Nat) := by
    have : ((b * (a / b) + a % b : Nat) : Int) = (a : Int) := by rw [hdm]
    rw [Int.natCast_add, Int.natCast_mul, Int.mul_comm (b : Int)] at this
    omega
   rw [eq]
   exact euc_wraps hle hmod hprod (by omega) hm hm' hbd hbd2
theorem inverse_ev {p n : Int} (h : IsP p) {e : Nat} (he : e ≤ 14) (hn : ¬ p ∣ n) :
  ∃ r, Ev (fun k => impl_inverse.f k n (p ^ e)) r ∧ 0 ≤ r ∧ r < p ^ e ∧ p ^ e ∣ r * n - 1 := by
 have h0 := pow_pos' h e
 have h7 := pow_le_seven h (m := e) (n := 14) (by omega)
 have e14 : (7 : Int) ^ 14 = 678223072849 := by decide
 have hst := Euc.start (n := n) h0 (coprime_start h hn e)
 have hr0 := Int.emod_nonneg n (Int.ne_of_gt h0)
 have hr1 := Int.emod_lt_of_pos n h0
 obtain ⟨r, hr, a, b, c⟩ := inverse_l h0 (by omega) _ _ _ _ _ (Nat.le_refl _) hst (by omega) (by omega)
 refine ⟨r, ?_, a, b, c⟩
 unfold impl_inverse.f
 simp only [mod_ev h0 (show p ^ e ≤ 4611686018427387904 by omega), Option.bind_some]
 rw [Int.toNat_of_nonneg hr0, Int.toNat_of_nonneg (by omega)] at hr
 exact hr
theorem unit_ev {p x u : Int} (h : IsP p) (hx : x ≠ 0) (hu : x = p ^ vl p x * u) (h0 : -9223372036854775807 ≤ x) (h1 : x ≤ 9223372036854775807) : Ev (fun k => impl_unit.f k p x) u := by
 unfold impl_unit.f
 rw [bnd (valuation_ev h hx h0 h1), bnd (power_any h hx h0 h1)]
 have q1 : Int.tdiv x (p ^ vl p x) = u := by
  conv => lhs; arg 1; rw [hu]
  exact tdiv_mul_left (pow_ne' h _)
 have c1 := tdiv_bounds (n := x) (m := p ^ vl p x)
 rw [q1] at c1
 simp only [if_neg (pow_ne' h _), q1]
 exact ev_some (wrap_id (by omega) (by omega))
theorem ballAt_ev {p num den level x : Int} (h : IsP p) (l0 : -6 ≤ level) (l1 : level ≤ 6) (hden : den ≠ 0)
  (n0 : -4000000000000000000 ≤ num ∧ num ≤ 4000000000000000000) (d0 : -4000000000000000000 ≤ den ∧ den ≤ 4000000000000000000)
  (hx : p ^ ((level + 6).toNat + vl p den) ∣ x * den - num * p ^ 6) (hfit : num = 0 ∨ vl p den ≤ vl p num + 6) :
  Ev (fun k => impl_ballAt.f k p num den level) (level, ofMt p level x, (ofMd p level x : Int), true) := by
 unfold impl_ballAt.f
 simp only [isLevel_eq, Option.bind_some, show (-6 ≤ level ∧ level ≤ 6) from ⟨l0, l1⟩, and_self, decide_true, if_true]
 have b2 := vl_le_62 h hden (by omega) (by omega)
 rw [bnd (valuation_any h (by omega) (by omega)), bnd (valuation_ev h hden (by omega) (by omega))]
 by_cases hz : num = 0
 ·obtain ⟨h1, h2⟩ := of_low h hden hx (.inl hz) l0
  simp only [if_pos hz]
  refine Ev.step (fun k => by rw [impl_ballAt.j0]) ?_
  simp only [if_true, h1, h2]
  exact Ev.now _
 ·have b1 := vl_le_62 h hz (by omega) (by omega)
  have ev : vx p num = vl p num := by unfold vx; rw [if_neg hz]
  have e1 : wrap64 ((vl p num : Int) - vl p den) = (vl p num : Int) - vl p den := wrap_id (by omega) (by omega)
  simp only [if_neg hz, ev, e1]
  by_cases hlow : level ≤ (vl p num : Int) - vl p den
  ·obtain ⟨h1, h2⟩ := of_low h hden hx (.inr (by omega)) l0
   simp only [show decide ((vl p num : Int) - vl p den ≥ level) = true from decide_eq_true hlow]
   refine Ev.step (fun k => by rw [impl_ballAt.j0]) ?_
   simp only [if_true, h1, h2]
   exact Ev.now _
  ·have hfit' : vl p den ≤ vl p num + 6 := by rcases hfit with h1 | h1; exact absurd h1 hz; exact h1
   simp only [show decide ((vl p num : Int) - vl p den ≥ level) = false from decide_eq_false hlow]
   refine Ev.step (fun k => by rw [impl_ballAt.j0]) ?_
   rw [wrap_id (x := level + 6) (by omega) (by omega), wrap_id (x := (vl p num : Int) - vl p den + 6) (by omega) (by omega)]
   simp only [if_neg Bool.false_ne_true, if_neg (show ¬ (vl p num : Int) - vl p den < -6 by omega)]
   obtain ⟨un, hun, hund, _⟩ := vl_split h num hz
   obtain ⟨ud, hud, hudd, _⟩ := vl_split h den hden
   have h12 := pow_le_seven h (m := (level + 6).toNat) (n := 12) (by omega)
   have e12 : (7 : Int) ^ 12 = 13841287201 := by decide
   have hpp := pow_pos' h (level + 6).toNat
   obtain ⟨inv, hinv, _, _, hid⟩ := inverse_ev h (n := ud) (e := (level + 6).toNat) (by omega) hudd
   rw [bnd (power_ev h (by omega)), bnd (unit_ev h hz hun (by omega) (by omega)), bnd (unit_ev h hden hud (by omega) (by omega)), bnd hinv, bnd (times_ev hpp (by omega)),
    bnd (power_ev h (by omega)), bnd (times_ev hpp (by omega))]
   have y0 := Int.emod_nonneg (un * inv % p ^ (level + 6).toNat * p ^ ((vl p num : Int) - vl p den + 6).toNat) (Int.ne_of_gt hpp)
   have y1 := Int.emod_lt_of_pos (un * inv % p ^ (level + 6).toNat * p ^ ((vl p num : Int) - vl p den + 6).toNat) hpp
   rw [bnd (ofMark_ev h (by omega))]
   simp only [show (-6 ≤ level ∧ level ≤ 6) from ⟨l0, l1⟩, and_self, if_true]
   have hnear : p ^ (level + 6).toNat ∣ un * inv % p ^ (level + 6).toNat * p ^ ((vl p num : Int) - vl p den + 6).toNat % p ^ (level + 6).toNat - x := by
    have e2 : ((vl p num : Int) - vl p den + 6).toNat = vl p num + 6 - vl p den := by omega
    rw [e2, mul_emod_left]
    refine dvd_of_shift h hudd (b := vl p den) ?_
    obtain ⟨j, hj⟩ := dvd_emod_sub (un * inv * p ^ (vl p num + 6 - vl p den)) (p ^ (level + 6).toNat)
    obtain ⟨i, hi⟩ := hid
    generalize un * inv * p ^ (vl p num + 6 - vl p den) % p ^ (level + 6).toNat = X at *
    have e3 : (X - x) * (p ^ vl p den * ud) = (X * (p ^ vl p den * ud) - num * p ^ 6) - (x * den - num * p ^ 6) := by rw [← hud, Int.sub_mul]; omega
    rw [e3]
    refine Int.dvd_sub ⟨un * p ^ (vl p num + 6 - vl p den) * i + j * ud, ?_⟩ hx
    have e4 : X = un * inv * p ^ (vl p num + 6 - vl p den) + p ^ (level + 6).toNat * j := by omega
    have e5 : inv * ud = 1 + p ^ (level + 6).toNat * i := by omega
    have e6 : p ^ (vl p num + 6 - vl p den) * p ^ vl p den = p ^ (vl p num + 6) := by rw [← Int.pow_add]; congr 1; omega
    have e7 : num * p ^ 6 = p ^ (vl p num + 6) * un := by
     conv => lhs; arg 1; rw [hun]
     rw [Int.pow_add, Int.mul_assoc, Int.mul_comm un, ← Int.mul_assoc]
    have e8 : un * inv * p ^ (vl p num + 6 - vl p den) * (p ^ vl p den * ud) = p ^ (vl p num + 6) * un * (inv * ud) := by
     rw [← e6]; simp only [Int.mul_assoc, Int.mul_comm, Int.mul_left_comm]
    have e9 : p ^ (vl p num + 6) * un * (p ^ (level + 6).toNat * i) = p ^ ((level + 6).toNat + vl p den) * (un * p ^ (vl p num + 6 - vl p den) * i) := by
     rw [← e6, Int.pow_add p (level + 6).toNat]; simp only [Int.mul_assoc, Int.mul_comm, Int.mul_left_comm]
    have e10 : p ^ (level + 6).toNat * j * (p ^ vl p den * ud) = p ^ ((level + 6).toNat + vl p den) * (j * ud) := by
     rw [Int.pow_add p (level + 6).toNat]; simp only [Int.mul_assoc, Int.mul_comm, Int.mul_left_comm]
    rw [e4, Int.add_mul, e8, e5, Int.mul_add, Int.mul_one, e9, e10, e7, Int.mul_add]
    omega
   have hc := ofM_congr (p := p) (l := level) (emod_eq_of_dvd hnear)
   rw [hc.1, hc.2]
   exact Ev.now _
theorem ballAt_no {p num den level : Int} (h : IsP p) (l0 : -6 ≤ level) (l1 : level ≤ 6) (hden : den ≠ 0) (hnum : num ≠ 0)
  (n0 : -4000000000000000000 ≤ num ∧ num ≤ 4000000000000000000) (d0 : -4000000000000000000 ≤ den ∧ den ≤ 4000000000000000000) (hfit : vl p num + 6 < vl p den) :
  Ev (fun k => impl_ballAt.f k p num den level) (0, 0, 0, false) := by
 unfold impl_ballAt.f
 simp only [isLevel_eq, Option.bind_some, show (-6 ≤ level ∧ level ≤ 6) from ⟨l0, l1⟩, and_self, decide_true, if_true, if_neg hnum]
 have b1 := vl_le_62 h hnum (by omega) (by omega)
 have b2 := vl_le_62 h hden (by omega) (by omega)
 rw [bnd (valuation_ev h hnum (by omega) (by omega)), bnd (valuation_ev h hden (by omega) (by omega))]
 have e1 : wrap64 ((vl p num : Int) - vl p den) = (vl p num : Int) - vl p den := wrap_id (by omega) (by omega)
 simp only [e1, show decide ((vl p num : Int) - vl p den ≥ level) = false from decide_eq_false (by omega)]
 refine Ev.step (fun k => by rw [impl_ballAt.j0]) ?_
 simp only [if_neg Bool.false_ne_true, if_pos (show (vl p num : Int) - vl p den < -6 by omega)]
 exact Ev.now _
theorem ballAt_out {p num den level : Int} (hl : ¬ (-6 ≤ level ∧ level ≤ 6)) : Ev (fun k => impl_ballAt.f k p num den level) (0, 0, 0, false) := by
 unfold impl_ballAt.f
 simp only [isLevel_eq, Option.bind_some, hl, decide_false, if_neg Bool.false_ne_true]
 exact Ev.now _
def AtIs (p num den level : Int) (r : Int × Int × Int × Bool) : Prop :=
 (-6 ≤ level ∧ level ≤ 6 ∧ (num = 0 ∨ vl p den ≤ vl p num + 6) ∧ ∃ x, p ^ ((level + 6).toNat + vl p den) ∣ x * den - num * p ^ 6 ∧ r = (level, ofMt p level x, (ofMd p level x : Int), true)) ∨
 (¬ (-6 ≤ level ∧ level ≤ 6 ∧ (num = 0 ∨ vl p den ≤ vl p num + 6)) ∧ r = (0, 0, 0, false))
theorem at_both {p num den level : Int} (h : IsP p) (hden : den ≠ 0)
  (n0 : -4000000000000000000 ≤ num ∧ num ≤ 4000000000000000000) (d0 : -4000000000000000000 ≤ den ∧ den ≤ 4000000000000000000) :
  ∃ r, Ev (fun k => spec_l01Of.f k p num den level) r ∧ Ev (fun k => impl_ballAt.f k p num den level) r ∧ AtIs p num den level r := by
 by_cases hl : -6 ≤ level ∧ level ≤ 6
 ·by_cases hfit : num = 0 ∨ vl p den ≤ vl p num + 6
  ·obtain ⟨x, hx⟩ := near_exists h hden hfit (level + 6).toNat
   exact ⟨_, l01Of_ev h hl.1 hl.2 hden n0 d0 hx hfit, ballAt_ev h hl.1 hl.2 hden n0 d0 hx hfit, .inl ⟨hl.1, hl.2, hfit, x, hx, rfl⟩⟩
  ·have hnum : num ≠ 0 := fun e => hfit (.inl e)
   exact ⟨_, l01Of_no h hl.1 hl.2 hden hnum n0 d0 (by omega), ballAt_no h hl.1 hl.2 hden hnum n0 d0 (by omega), .inr ⟨fun hc => hfit hc.2.2, rfl⟩⟩
 ·exact ⟨_, l01Of_out hl, ballAt_out hl, .inr ⟨fun hc => hl ⟨hc.1, hc.2.1⟩, rfl⟩⟩
def LatOfIs (p x y det : Int) (r : Int × Int × Int × Int) : Prop :=
 (((vl p det : Int) - vl p y > 12 ∨ (vl p y : Int) > 12) ∧ r = (0, 0, 0, 3)) ∨
 (¬ ((vl p det : Int) - vl p y > 12 ∨ (vl p y : Int) > 12) ∧ ∃ mix, 0 ≤ mix ∧ mix < p ^ (vl p det - vl p y) ∧ p ^ vl p det ∣ mix * y - x * p ^ vl p y ∧ r = (((vl p det - vl p y : Nat) : Int), mix, (vl p y : Int), 0))
theorem LatOfIs.uniq {p a b c d : Int} {r r' : Int × Int × Int × Int} (hp : IsP p) (hc : c ≠ 0) (hd : d ≠ 0) (hcd : vl p c = vl p d) (hdet : a * d - b * c ≠ 0)
  (h : LatOfIs p a c (a * d - b * c) r) (h' : LatOfIs p b d (a * d - b * c) r') : r = r' := by
 rcases h with ⟨h1, rfl⟩ | ⟨h1, m, m0, m1, hm, rfl⟩
 ·rcases h' with ⟨_, rfl⟩ | ⟨h2, _⟩
  ·rfl
  ·rw [hcd] at h1; exact absurd h1 h2
 ·rcases h' with ⟨h2, _⟩ | ⟨h2, n, n0, n1, hn, rfl⟩
  ·rw [hcd] at h1; exact absurd h2 h1
  ·have : m = n := by
    obtain ⟨uc, huc, hucd, _⟩ := vl_split hp c hc
    obtain ⟨ud, hud, hudd, _⟩ := vl_split hp d hd
    rw [hcd] at huc m1 hm
    generalize hv : vl p d = v at *
    have hdd : p ^ vl p (a * d - b * c) ∣ a * d - b * c := pow_vl_dvd hp hdet
    have hle : v ≤ vl p (a * d - b * c) := by
     refine (pow_dvd_iff hp hdet v).1 ?_
     exact Int.dvd_sub (Int.dvd_trans ⟨ud, hud⟩ (Int.dvd_mul_left _ _)) (Int.dvd_trans ⟨uc, huc⟩ (Int.dvd_mul_left _ _))
    have key : p ^ (vl p (a * d - b * c) - v) ∣ m - n := by
     refine not_dvd_pow_mul hp hucd (not_dvd_pow_mul hp hudd ?_)
     refine dvd_cancel (pow_ne' hp v) ?_
     have e0 : p ^ v * p ^ (vl p (a * d - b * c) - v) = p ^ vl p (a * d - b * c) := by rw [← Int.pow_add]; congr 1; omega
     rw [e0]
     have k1 : p ^ vl p (a * d - b * c) ∣ (m * c - a * p ^ v) * ud := Int.dvd_trans hm (Int.dvd_mul_right _ _)
     have k2 : p ^ vl p (a * d - b * c) ∣ (n * d - b * p ^ v) * uc := Int.dvd_trans hn (Int.dvd_mul_right _ _)
     have k3 := Int.dvd_add (Int.dvd_sub k1 k2) hdd
     have e1 : (m * c - a * p ^ v) * ud - (n * d - b * p ^ v) * uc + (a * d - b * c) = p ^ v * ((m - n) * uc * ud) := by
      have e2 : m * c * ud = p ^ v * (m * uc * ud) := by rw [huc]; simp only [Int.mul_assoc, Int.mul_comm, Int.mul_left_comm]
      have e3 : n * d * uc = p ^ v * (n * uc * ud) := by rw [hud]; simp only [Int.mul_assoc, Int.mul_comm, Int.mul_left_comm]
      have e4 : a * p ^ v * ud = a * d := by rw [Int.mul_assoc, ← hud]
      have e5 : b * p ^ v * uc = b * c := by rw [Int.mul_assoc, ← huc]
      rw [Int.sub_mul, Int.sub_mul, e2, e3, e4, e5, Int.sub_mul m n, Int.sub_mul, Int.mul_sub]
      omega
     rw [e1] at k3
     exact k3
    have h5 := emod_eq_of_dvd key
    rw [Int.emod_eq_of_lt m0 m1, Int.emod_eq_of_lt n0 n1] at h5
    exact h5
   rw [this, hcd]
theorem LatOfIs.same {p x y det : Int} {r r' : Int × Int × Int × Int} (h : LatOfIs p x y det r) (h' : LatOfIs p x y det r') (hp : IsP p) (hy : y ≠ 0) : r = r' := by
 rcases h with ⟨h1, rfl⟩ | ⟨h1, m, m0, m1, hm, rfl⟩
 ·rcases h' with ⟨_, rfl⟩ | ⟨h2, _⟩
  ·rfl
  ·exact absurd h1 h2
 ·rcases h' with ⟨h2, _⟩ | ⟨h2, n, n0, n1, hn, rfl⟩
  ·exact absurd h2 h1
  ·have : m = n := by
    obtain ⟨uy, huy, huyd, _⟩ := vl_split hp y hy
    by_cases hle : vl p y ≤ vl p det
    ·have key : p ^ (vl p det - vl p y) ∣ m - n := by
      refine not_dvd_pow_mul hp huyd ?_
      refine dvd_cancel (pow_ne' hp (vl p y)) ?_
      have e0 : p ^ vl p y * p ^ (vl p det - vl p y) = p ^ vl p det := by rw [← Int.pow_add]; congr 1; omega
      rw [e0]
      have k := Int.dvd_sub hm hn
      have e1 : m * y - x * p ^ vl p y - (n * y - x * p ^ vl p y) = p ^ vl p y * ((m - n) * uy) := by
       have e2 : p ^ vl p y * ((m - n) * uy) = (m - n) * y := by
        conv => rhs; arg 2; rw [huy]
        rw [Int.mul_left_comm]
       rw [e2, Int.sub_mul]; omega
      rwa [e1] at k
     have h5 := emod_eq_of_dvd key
     rw [Int.emod_eq_of_lt m0 m1, Int.emod_eq_of_lt n0 n1] at h5
     exact h5
    ·have e0 : vl p det - vl p y = 0 := by omega
     rw [e0, Int.pow_zero] at m1 n1
     omega
   rw [this]
theorem LatOfIs.det_neg {p x y det : Int} {r : Int × Int × Int × Int} (hp : IsP p) (hdet : det ≠ 0) (h : LatOfIs p x y (-det) r) : LatOfIs p x y det r := by
 unfold LatOfIs at *
 rw [vl_neg hp hdet] at h
 exact h
theorem implLatOf_j {p x y det : Int} (hp : IsP p) (hy : y ≠ 0) (hdet : det ≠ 0) (hle : vl p y ≤ vl p det) (hxb : -1000000 ≤ x ∧ x ≤ 1000000) (hyb : -1000000 ≤ y ∧ y ≤ 1000000) (hdb : -4000000000000 ≤ det ∧ det ≤ 4000000000000) :
  ∃ r, Ev (fun k => impl_LatticeOf.j0 k p det x y) r ∧ LatOfIs p x y det r := by
 have v1 := vl_le_62 hp hy (by omega) (by omega)
 have v2 := vl_le_62 hp hdet (by omega) (by omega)
 have hstart : ∀ r, Ev (fun k => impl_LatticeOf.j1 k p x y (vl p y) ((vl p det : Int) - vl p y) (decide ((vl p det : Int) - vl p y > 12 ∨ (vl p y : Int) > 12))) r → Ev (fun k => impl_LatticeOf.j0 k p det x y) r := by
  intro r hr
  refine Ev.step (fun k => by rw [impl_LatticeOf.j0]) ?_
  rw [bnd (valuation_ev hp hy (by omega) (by omega)), bnd (valuation_ev hp hdet (by omega) (by omega)), wrap_id (by omega) (by omega)]
  by_cases h1 : (vl p det : Int) - vl p y > 12
  ·simp only [if_pos h1]
   have : decide ((vl p det : Int) - vl p y > 12 ∨ (vl p y : Int) > 12) = true := decide_eq_true (.inl h1)
   rwa [this] at hr
  ·simp only [if_neg h1]
   have : decide ((vl p det : Int) - vl p y > 12 ∨ (vl p y : Int) > 12) = decide ((vl p y : Int) > 12) := by simp [h1]
   rwa [this] at hr
 by_cases hb : (vl p det : Int) - vl p y > 12 ∨ (vl p y : Int) > 12
 ·refine ⟨(0, 0, 0, 3), hstart _ ?_, .inl ⟨hb, rfl⟩⟩
  rw [decide_eq_true hb]
  refine Ev.step (fun k => by rw [impl_LatticeOf.j1]) ?_
  simp only [if_true]; exact Ev.now _
 ·obtain ⟨uy, huy, huyd, _⟩ := vl_split hp y hy
  have e1 : ((vl p det : Int) - vl p y).toNat = vl p det - vl p y := by omega
  have h0 := pow_pos' hp (vl p det - vl p y)
  have h7 := pow_le_seven hp (m := vl p det - vl p y) (n := 12) (by omega)
  have e12 : (7 : Int) ^ 12 = 13841287201 := by decide
  obtain ⟨inv, hinv, i0, i1, hid⟩ := inverse_ev hp (n := uy) (e := vl p det - vl p y) (by omega) huyd
  have m0 := Int.emod_nonneg (x * inv) (Int.ne_of_gt h0)
  have m1 := Int.emod_lt_of_pos (x * inv) h0
  refine ⟨((vl p det - vl p y : Nat), x * inv % p ^ (vl p det - vl p y), vl p y, 0), hstart _ ?_, .inr ⟨hb, _, m0, m1, ?_, rfl⟩⟩
  ·rw [decide_eq_false hb]
   refine Ev.step (fun k => by rw [impl_LatticeOf.j1]) ?_
   simp only [if_neg Bool.false_ne_true]
   rw [bnd (power_ev hp (by omega)), e1, bnd (unit_ev hp hy huy (by omega) (by omega)), bnd hinv, bnd (times_ev h0 (by omega))]
   unfold impl_form.f
   simp only [if_neg (show ¬ (vl p det : Int) - vl p y > 12 by omega), if_neg (show ¬ (vl p y : Int) > 12 by omega), Option.bind_some]
   exact ev_some (by rw [show (vl p det : Int) - vl p y = ((vl p det - vl p y : Nat) : Int) by omega])
  ·have d1 := dvd_emod_sub (x * inv) (p ^ (vl p det - vl p y))
   have d2 : p ^ (vl p det - vl p y) ∣ (x * inv % p ^ (vl p det - vl p y) - x * inv) * uy + x * (inv * uy - 1) := Int.dvd_add (Int.dvd_trans d1 (Int.dvd_mul_right _ _)) (Int.dvd_trans hid (Int.dvd_mul_left _ _))
   have e2 : p ^ vl p det = p ^ vl p y * p ^ (vl p det - vl p y) := by rw [← Int.pow_add]; congr 1; omega
   have e3 : x * inv % p ^ (vl p det - vl p y) * y - x * p ^ vl p y = p ^ vl p y * ((x * inv % p ^ (vl p det - vl p y) - x * inv) * uy + x * (inv * uy - 1)) := by
    generalize x * inv % p ^ (vl p det - vl p y) = q
    conv => lhs; arg 1; arg 2; rw [huy]
    have a1 : (q - x * inv) * uy + x * (inv * uy - 1) = q * uy - x := by
     rw [Int.sub_mul, Int.mul_sub, Int.mul_one, ← Int.mul_assoc]; omega
    rw [a1, Int.mul_sub, Int.mul_left_comm, Int.mul_comm x]
   rw [e2, e3]
   exact Int.mul_dvd_mul (Int.dvd_refl _) d2
theorem l03Cross_ev {p a b r s : Int} (hp : IsP p) (ha : -1000000 ≤ a ∧ a ≤ 1000000) (hz : a * r - s * b ≠ 0) :
  Ev (fun k => spec_l03Cross.f k p a r s b) (if vl p (a * r - s * b) < 13 then (vl p (a * r - s * b) : Int) else -1) := by
 unfold spec_l03Cross.f
 have h13 := pow_pos' hp 13
 have h13' := pow_le_seven hp (m := 13) (n := 13) (Nat.le_refl _)
 have e13 : (7 : Int) ^ 13 = 96889010407 := by decide
 have p13 := l01Power_ev hp (n := 13) (by omega)
 rw [show (13 : Int).toNat = 13 from rfl] at p13
 rw [bnd p13]
 simp only [l01MulMod_eq h13 (show p ^ 13 ≤ 100000000000 by omega), Option.bind_some, if_neg (pow_ne' hp _)]
 have t0 := Int.emod_nonneg (a * r) (Int.ne_of_gt h13)
 have t1 := Int.emod_lt_of_pos (a * r) h13
 have s0 := Int.emod_nonneg (s * b) (Int.ne_of_gt h13)
 have s1 := Int.emod_lt_of_pos (s * b) h13
 rw [wrap_id (x := a * r % p ^ 13 - s * b % p ^ 13) (by omega) (by omega), wrap_id (by omega) (by omega), Int.tmod_eq_emod_of_nonneg (by omega), Int.add_emod_right]
 have hc : p ^ 13 ∣ (a * r - s * b) - (a * r % p ^ 13 - s * b % p ^ 13) % p ^ 13 := by
  refine dvd_of_emod_eq ?_
  rw [Int.emod_emod, ← Int.sub_emod]
 have y0 := Int.emod_nonneg (a * r % p ^ 13 - s * b % p ^ 13) (Int.ne_of_gt h13)
 have y1 := Int.emod_lt_of_pos (a * r % p ^ 13 - s * b % p ^ 13) h13
 by_cases hd : p ^ 13 ∣ a * r - s * b
 ·have hy : (a * r % p ^ 13 - s * b % p ^ 13) % p ^ 13 = 0 := by
   have := Int.dvd_sub hd hc
   have e1 : a * r - s * b - ((a * r - s * b) - (a * r % p ^ 13 - s * b % p ^ 13) % p ^ 13) = (a * r % p ^ 13 - s * b % p ^ 13) % p ^ 13 := by omega
   rw [e1] at this
   have := Int.emod_eq_zero_of_dvd this
   rwa [Int.emod_emod] at this
  have hv := (pow_dvd_iff hp hz 13).1 hd
  simp only [if_pos hy, if_neg (show ¬ vl p (a * r - s * b) < 13 by omega)]
  exact Ev.now _
 ·obtain ⟨_, h1, _, h3, h4⟩ := vl_congr hp hc hd
  simp only [if_neg h3, if_pos h4]
  rw [bnd (l01Val_ev hp h3 (by omega) (by omega)), ← h1]
  exact Ev.now _
theorem columns_j {p a b c d : Int} (hp : IsP p) (hd : d ≠ 0) (hdet : a * d - b * c ≠ 0) (hdc : p ^ vl p d ∣ c) (ha : -1000000 ≤ a ∧ a ≤ 1000000) (hb : -1000000 ≤ b ∧ b ≤ 1000000) (hcb : -1000000 ≤ c ∧ c ≤ 1000000) (hdb : -1000000 ≤ d ∧ d ≤ 1000000)
  (hdet' : -4000000000000 ≤ a * d - b * c ∧ a * d - b * c ≤ 4000000000000) :
  ∃ q r, Ev (fun k => spec_l03Columns.j0 k p a b c d) q ∧ LatOfIs p b d (a * d - b * c) r ∧ r = (if q.2.2.2 = true then (q.1, q.2.1, q.2.2.1, 0) else (0, 0, 0, 3)) := by
 have v1 := vl_le_62 hp hd (by omega) (by omega)
 have v2 := vl_le_62 hp hdet (by omega) (by omega)
 obtain ⟨ud, hud, hudd, _⟩ := vl_split hp d hd
 obtain ⟨uc, huc⟩ := hdc
 by_cases h12 : (vl p d : Int) > 12
 ·refine ⟨(0, 0, 0, false), (0, 0, 0, 3), ?_, .inl ⟨.inr h12, rfl⟩, by simp⟩
  refine Ev.step (fun k => by rw [spec_l03Columns.j0]) ?_
  rw [bnd (l01Val_ev hp hd (by omega) (by omega))]
  simp only [if_pos h12]; exact Ev.now _
 ·have hcross : a * ud - uc * b ≠ 0 ∧ vl p (a * d - b * c) = vl p d + vl p (a * ud - uc * b) := by
   have e1 : a * d - b * c = p ^ vl p d * (a * ud - uc * b) := by
    rw [Int.mul_sub]
    have e2 : a * d = p ^ vl p d * (a * ud) := by
     conv => lhs; arg 2; rw [hud]
     rw [Int.mul_left_comm]
    have e3 : b * c = p ^ vl p d * (uc * b) := by
     conv => lhs; arg 2; rw [huc]
     rw [Int.mul_left_comm, Int.mul_comm b]
    rw [e2, e3]
   have hne : a * ud - uc * b ≠ 0 := by
    intro h0; rw [e1, h0, Int.mul_zero] at hdet; exact hdet rfl
   refine ⟨hne, ?_⟩
   rw [e1, vl_pow_mul hp hne]
  have q1 : Int.tdiv d (p ^ vl p d) = ud := by
   conv => lhs; arg 1; rw [hud]
   exact tdiv_mul_left (pow_ne' hp _)
  have q2 : Int.tdiv c (p ^ vl p d) = uc := by
   conv => lhs; arg 1; rw [huc]
   exact tdiv_mul_left (pow_ne' hp _)
  have c1 := tdiv_bounds (n := d) (m := p ^ vl p d)
  have c2 := tdiv_bounds (n := c) (m := p ^ vl p d)
  rw [q1] at c1
  rw [q2] at c2
  have hcr := l03Cross_ev (b := b) (r := ud) (s := uc) hp ha hcross.1
  have hstart : ∀ q, Ev (fun k => ((fun (t : Int) => if t < 0 then some (0, 0, 0, false) else ((spec_l01Power.f k p t).bind fun t115 => ((spec_l01InvMod.f k ud t115).bind fun t116 => ((spec_l01MulMod.f b t116 t115).bind fun t117 => (some (t, t117, (vl p d : Int), true)))))) (if vl p (a * ud - uc * b) < 13 then (vl p (a * ud - uc * b) : Int) else -1))) q → Ev (fun k => spec_l03Columns.j0 k p a b c d) q := by
   intro q hq
   refine Ev.step (fun k => by rw [spec_l03Columns.j0]) ?_
   rw [bnd (l01Val_ev hp hd (by omega) (by omega))]
   simp only [if_neg h12]
   rw [bnd (l01Power_any hp hd (by omega) (by omega))]
   simp only [if_neg (pow_ne' hp _), q1, q2]
   rw [wrap_id (x := ud) (by omega) (by omega), wrap_id (x := uc) (by omega) (by omega), bnd hcr]
   exact hq
  by_cases h13 : vl p (a * ud - uc * b) < 13
  ·have e1 : vl p (a * ud - uc * b) = vl p (a * d - b * c) - vl p d := by omega
   have h0 := pow_pos' hp (vl p (a * d - b * c) - vl p d)
   have h7 := pow_le_seven hp (m := vl p (a * d - b * c) - vl p d) (n := 12) (by omega)
   have e12 : (7 : Int) ^ 12 = 13841287201 := by decide
   obtain ⟨inv, hinv, i0, i1, hid⟩ := l01InvMod_ev hp (n := ud) (e := vl p (a * d - b * c) - vl p d) (by omega) hudd
   have m0 := Int.emod_nonneg (b * inv) (Int.ne_of_gt h0)
   have m1 := Int.emod_lt_of_pos (b * inv) h0
   refine ⟨((vl p (a * d - b * c) - vl p d : Nat), b * inv % p ^ (vl p (a * d - b * c) - vl p d), vl p d, true), ((vl p (a * d - b * c) - vl p d : Nat), b * inv % p ^ (vl p (a * d - b * c) - vl p d), vl p d, 0), hstart _ ?_, .inr ⟨by omega, _, m0, m1, ?_, rfl⟩, by simp⟩
   ·simp only [if_pos h13, if_neg (show ¬ (vl p (a * ud - uc * b) : Int) < 0 by omega)]
    rw [e1]
    have hpw := l01Power_ev hp (n := ((vl p (a * d - b * c) - vl p d : Nat) : Int)) (by omega)
    rw [Int.toNat_natCast] at hpw
    rw [bnd hpw, bnd hinv]
    simp only [l01MulMod_eq h0 (show p ^ (vl p (a * d - b * c) - vl p d) ≤ 100000000000 by omega), Option.bind_some]
    exact Ev.now _
   ·have d1 := dvd_emod_sub (b * inv) (p ^ (vl p (a * d - b * c) - vl p d))
    have d2 : p ^ (vl p (a * d - b * c) - vl p d) ∣ (b * inv % p ^ (vl p (a * d - b * c) - vl p d) - b * inv) * ud + b * (inv * ud - 1) := Int.dvd_add (Int.dvd_trans d1 (Int.dvd_mul_right _ _)) (Int.dvd_trans hid (Int.dvd_mul_left _ _))
    have e2 : p ^ vl p (a * d - b * c) = p ^ vl p d * p ^ (vl p (a * d - b * c) - vl p d) := by rw [← Int.pow_add]; congr 1; omega
    have e3 : b * inv % p ^ (vl p (a * d - b * c) - vl p d) * d - b * p ^ vl p d = p ^ vl p d * ((b * inv % p ^ (vl p (a * d - b * c) - vl p d) - b * inv) * ud + b * (inv * ud - 1)) := by
     generalize b * inv % p ^ (vl p (a * d - b * c) - vl p d) = q
     conv => lhs; arg 1; arg 2; rw [hud]
     have a1 : (q - b * inv) * ud + b * (inv * ud - 1) = q * ud - b := by
      rw [Int.sub_mul, Int.mul_sub, Int.mul_one, ← Int.mul_assoc]; omega
     rw [a1, Int.mul_sub, Int.mul_left_comm, Int.mul_comm b]
    rw [e2, e3]
    exact Int.mul_dvd_mul (Int.dvd_refl _) d2
  ·refine ⟨(0, 0, 0, false), (0, 0, 0, 3), hstart _ ?_, .inl ⟨.inl (by omega), rfl⟩, by simp⟩
   simp only [if_neg h13, if_pos (show (-1 : Int) < 0 by omega)]
   exact Ev.now _
def LatticeOfIs (p a b c d : Int) (r : Int × Int × Int × Int) : Prop :=
 (¬ IsP p ∧ r = (0, 0, 0, 1)) ∨
 (IsP p ∧ ¬ ((-1000000 ≤ a ∧ a ≤ 1000000) ∧ (-1000000 ≤ b ∧ b ≤ 1000000) ∧ (-1000000 ≤ c ∧ c ≤ 1000000) ∧ -1000000 ≤ d ∧ d ≤ 1000000) ∧ r = (0, 0, 0, 2)) ∨
 (IsP p ∧ ((-1000000 ≤ a ∧ a ≤ 1000000) ∧ (-1000000 ≤ b ∧ b ≤ 1000000) ∧ (-1000000 ≤ c ∧ c ≤ 1000000) ∧ -1000000 ≤ d ∧ d ≤ 1000000) ∧ a * d - b * c = 0 ∧ r = (0, 0, 0, 5)) ∨
 (IsP p ∧ ((-1000000 ≤ a ∧ a ≤ 1000000) ∧ (-1000000 ≤ b ∧ b ≤ 1000000) ∧ (-1000000 ≤ c ∧ c ≤ 1000000) ∧ -1000000 ≤ d ∧ d ≤ 1000000) ∧ a * d - b * c ≠ 0 ∧
  ((d ≠ 0 ∧ p ^ vl p d ∣ c ∧ LatOfIs p b d (a * d - b * c) r) ∨ (c ≠ 0 ∧ p ^ vl p c ∣ d ∧ LatOfIs p a c (a * d - b * c) r)))
theorem mul_small {a b : Int} (ha : -1000000 ≤ a ∧ a ≤ 1000000) (hb : -1000000 ≤ b ∧ b ≤ 1000000) : -1000000000000 ≤ a * b ∧ a * b ≤ 1000000000000 := by
 rcases Int.le_total 0 a with h1 | h1 <;> rcases Int.le_total 0 b with h2 | h2
 ·have := Int.mul_le_mul ha.2 hb.2 h2 (by omega)
  have := Int.mul_nonneg h1 h2
  omega
 ·have := Int.mul_le_mul ha.2 (show -b ≤ 1000000 by omega) (by omega) (by omega)
  have := Int.mul_nonneg h1 (show 0 ≤ -b by omega)
  rw [Int.mul_neg] at *
  omega
 ·have := Int.mul_le_mul (show -a ≤ 1000000 by omega) hb.2 h2 (by omega)
  have := Int.mul_nonneg (show 0 ≤ -a by omega) h2
  rw [Int.neg_mul] at *
  omega
 ·have := Int.mul_le_mul (show -a ≤ 1000000 by omega) (show -b ≤ 1000000 by omega) (by omega) (by omega)
  have := Int.mul_nonneg (show 0 ≤ -a by omega) (show 0 ≤ -b by omega)
  rw [Int.neg_mul_neg] at *
  omega
theorem vx_dvd {p c d : Int} (hp : IsP p) (hd : d ≠ 0) (h : c = 0 ∨ vl p d ≤ vl p c) : p ^ vl p d ∣ c := by
 by_cases hc : c = 0
 ·subst hc; exact Int.dvd_zero _
 ·rcases h with h | h
  ·exact absurd h hc
  ·exact (pow_dvd_iff hp hc _).2 h
theorem latticeOf_both (p a b c d : Int) : ∃ r, Ev (fun k => spec_LatticeOf.f k p a b c d) r ∧ Ev (fun k => impl_LatticeOf.f k p a b c d) r ∧ LatticeOfIs p a b c d r := by
 unfold spec_LatticeOf.f impl_LatticeOf.f
 simp only [l01Prime_eq, isPrime_eq, Option.bind_some]
 by_cases hp : IsP p
 ·simp only [hp, decide_true, if_true]
  by_cases hr : (-1000000 ≤ a ∧ a ≤ 1000000) ∧ (-1000000 ≤ b ∧ b ≤ 1000000) ∧ (-1000000 ≤ c ∧ c ≤ 1000000) ∧ -1000000 ≤ d ∧ d ≤ 1000000
  ·obtain ⟨ha, hb, hc, hd⟩ := hr
   have m1 := mul_small ha hd
   have m2 := mul_small hb hc
   have ew : wrap64 (wrap64 (a * d) - wrap64 (b * c)) = a * d - b * c := by rw [wrap_id (x := a * d) (by omega) (by omega), wrap_id (x := b * c) (by omega) (by omega), wrap_id (by omega) (by omega)]
   have hspec : ∀ r, Ev (fun k => spec_LatticeOf.j0 k p a b c d false) r → Ev (fun k => (spec_l01In.f a (-1000000) 1000000).bind fun t120 => (if t120 = true then ((spec_l01In.f b (-1000000) 1000000).bind fun t121 => (if t121 = true then ((spec_l01In.f c (-1000000) 1000000).bind fun t122 => (if t122 = true then ((spec_l01In.f d (-1000000) 1000000).bind fun t123 => (spec_LatticeOf.j0 k p a b c d (!t123))) else (spec_LatticeOf.j0 k p a b c d true))) else (spec_LatticeOf.j0 k p a b c d true))) else (spec_LatticeOf.j0 k p a b c d true))) r := by
    intro r h
    simp only [l01In_eq, Option.bind_some, ha, hb, hc, hd, and_self, decide_true, if_true, Bool.not_true]
    exact h
   have himpl : ∀ r, Ev (fun k => if wrap64 (wrap64 (a * d) - wrap64 (b * c)) = 0 then (some (0, 0, 0, 5)) else ((impl_valuation.f k p d).bind fun t149 => ((impl_valuation.f k p c).bind fun t150 => (if t149 < t150 then (impl_LatticeOf.j0 k p (wrap64 ((wrap64 (a * d)) - (wrap64 (b * c)))) b d) else (impl_LatticeOf.j0 k p (wrap64 ((wrap64 (a * d)) - (wrap64 (b * c)))) a c))))) r →
     Ev (fun k => (impl_within.f k 1000000 [a, b, c, d]).bind fun t148 => (if t148 = true then (if wrap64 (wrap64 (a * d) - wrap64 (b * c)) = 0 then (some (0, 0, 0, 5)) else ((impl_valuation.f k p d).bind fun t149 => ((impl_valuation.f k p c).bind fun t150 => (if t149 < t150 then (impl_LatticeOf.j0 k p (wrap64 ((wrap64 (a * d)) - (wrap64 (b * c)))) b d) else (impl_LatticeOf.j0 k p (wrap64 ((wrap64 (a * d)) - (wrap64 (b * c)))) a c))))) else (some (0, 0, 0, 2)))) r := by
    intro r h
    rw [bnd (within4 (by omega) (by omega))]
    simp only [ha, hb, hc, hd, and_self, decide_true, if_true]
    exact h
   by_cases hz : a * d - b * c = 0
   ·refine ⟨(0, 0, 0, 5), hspec _ ?_, himpl _ ?_, .inr (.inr (.inl ⟨hp, ⟨ha, hb, hc, hd⟩, hz, rfl⟩))⟩
    ·refine Ev.step (fun k => by rw [spec_LatticeOf.j0]) ?_
     rw [ew]
     simp only [if_neg Bool.false_ne_true, if_pos hz]; exact Ev.now _
    ·rw [ew]
     simp only [if_pos hz]; exact Ev.now _
   ·have hcd : ¬ (c = 0 ∧ d = 0) := by rintro ⟨rfl, rfl⟩; simp at hz
    -- the reference's way
    have hsp : ∃ r, Ev (fun k => spec_LatticeOf.j0 k p a b c d false) r ∧
      (((c ≠ 0 ∧ (d = 0 ∨ vl p c < vl p d)) ∧ LatOfIs p a c (a * d - b * c) r) ∨ ((d ≠ 0 ∧ (c = 0 ∨ vl p d ≤ vl p c)) ∧ LatOfIs p b d (a * d - b * c) r)) := by
     have hcol : ∀ q r, Ev (fun k => spec_l03Columns.f k p a b c d) q → r = (if q.2.2.2 = true then (q.1, q.2.1, q.2.2.1, 0) else (0, 0, 0, 3)) → Ev (fun k => spec_LatticeOf.j0 k p a b c d false) r := by
      intro q r hq e
      refine Ev.step (fun k => by rw [spec_LatticeOf.j0]) ?_
      rw [ew]
      simp only [if_neg Bool.false_ne_true, if_neg hz]
      rw [bnd hq, e]
      by_cases h2 : q.2.2.2 = true
      ·simp only [if_pos h2]; exact Ev.now _
      ·simp only [if_neg h2]; exact Ev.now _
     by_cases hlt : c ≠ 0 ∧ (d = 0 ∨ vl p c < vl p d)
     ·have hdvd : p ^ vl p c ∣ d := vx_dvd hp hlt.1 (by rcases hlt.2 with h | h; exact .inl h; exact .inr (by omega))
      have hz' : b * c - a * d ≠ 0 := by omega
      obtain ⟨q, r, h1, h2, h3⟩ := columns_j hp hlt.1 hz' hdvd hb ha hd hc (by omega)
      refine ⟨r, hcol q r ?_ h3, .inl ⟨hlt, ?_⟩⟩
      ·unfold spec_l03Columns.f
       rw [bnd (l03Vals_ev hp (by omega) (by omega)), bnd (l03Vals_ev hp (by omega) (by omega))]
       have v1 := vl_le_62 hp hlt.1 (by omega) (by omega)
       have : (if c = 0 then 100 else (vl p c : Int)) < (if d = 0 then 100 else (vl p d : Int)) := by
        rw [if_neg hlt.1]
        split
        ·omega
        ·rename_i hd0; rcases hlt.2 with h | h; exact absurd h hd0; omega
       simp only [if_pos this]
       exact h1
      ·have : b * c - a * d = -(a * d - b * c) := by omega
       rw [this] at h2
       exact LatOfIs.det_neg hp hz h2
     ·have hd0 : d ≠ 0 := fun h => hlt ⟨fun hc0 => hcd ⟨hc0, h⟩, .inl h⟩
      have hle : c = 0 ∨ vl p d ≤ vl p c := by
       by_cases hc0 : c = 0
       ·exact .inl hc0
       ·right
        have : ¬ vl p c < vl p d := fun h => hlt ⟨hc0, .inr h⟩
        omega
      have hdvd : p ^ vl p d ∣ c := vx_dvd hp hd0 hle
      obtain ⟨q, r, h1, h2, h3⟩ := columns_j hp hd0 hz hdvd ha hb hc hd (by omega)
      refine ⟨r, hcol q r ?_ h3, .inr ⟨⟨hd0, hle⟩, h2⟩⟩
      unfold spec_l03Columns.f
      rw [bnd (l03Vals_ev hp (by omega) (by omega)), bnd (l03Vals_ev hp (by omega) (by omega))]
      have v1 := vl_le_62 hp hd0 (by omega) (by omega)
      have : ¬ (if c = 0 then 100 else (vl p c : Int)) < (if d = 0 then 100 else (vl p d : Int)) := by
       rw [if_neg hd0]
       split
       ·omega
       ·rename_i hc0; rcases hle with h | h; exact absurd h hc0; omega
      simp only [if_neg this]
      exact h1
    -- the program's way
    have hip : ∃ r, Ev (fun k => if wrap64 (wrap64 (a * d) - wrap64 (b * c)) = 0 then (some (0, 0, 0, 5)) else ((impl_valuation.f k p d).bind fun t149 => ((impl_valuation.f k p c).bind fun t150 => (if t149 < t150 then (impl_LatticeOf.j0 k p (wrap64 ((wrap64 (a * d)) - (wrap64 (b * c)))) b d) else (impl_LatticeOf.j0 k p (wrap64 ((wrap64 (a * d)) - (wrap64 (b * c)))) a c))))) r ∧
      (((d ≠ 0 ∧ (c = 0 ∨ vl p d < vl p c)) ∧ LatOfIs p b d (a * d - b * c) r) ∨ ((c ≠ 0 ∧ (d = 0 ∨ vl p c ≤ vl p d)) ∧ LatOfIs p a c (a * d - b * c) r)) := by
     rw [ew]
     simp only [if_neg hz]
     have hdet_dvd : ∀ {e : Int} {v : Nat}, p ^ v ∣ c → p ^ v ∣ d → v ≤ vl p (a * d - b * c) := by
      intro e v h1 h2
      refine (pow_dvd_iff hp hz v).1 ?_
      exact Int.dvd_sub (Int.dvd_trans h2 (Int.dvd_mul_left _ _)) (Int.dvd_trans h1 (Int.dvd_mul_left _ _))
     by_cases hlt : d ≠ 0 ∧ (c = 0 ∨ vl p d < vl p c)
     ·have hdvd : p ^ vl p d ∣ c := vx_dvd hp hlt.1 (by rcases hlt.2 with h | h; exact .inl h; exact .inr (by omega))
      obtain ⟨r, h1, h2⟩ := implLatOf_j (x := b) hp hlt.1 hz (hdet_dvd (e := 0) hdvd (pow_vl_dvd hp hlt.1)) hb hd (by omega)
      refine ⟨r, ?_, .inl ⟨hlt, h2⟩⟩
      rw [bnd (valuation_any hp (by omega) (by omega)), bnd (valuation_any hp (by omega) (by omega))]
      have v1 := vl_le_62 hp hlt.1 (by omega) (by omega)
      have : vx p d < vx p c := by
       unfold vx
       rw [if_neg hlt.1]
       split
       ·omega
       ·rename_i hc0; rcases hlt.2 with h | h; exact absurd h hc0; omega
      simp only [if_pos this]
      exact h1
     ·have hc0 : c ≠ 0 := fun h => hlt ⟨fun hd0 => hcd ⟨h, hd0⟩, .inl h⟩
      have hle : d = 0 ∨ vl p c ≤ vl p d := by
       by_cases hd0 : d = 0
       ·exact .inl hd0
       ·right
        have : ¬ vl p d < vl p c := fun h => hlt ⟨hd0, .inr h⟩
        omega
      have hdvd : p ^ vl p c ∣ d := vx_dvd hp hc0 hle
      obtain ⟨r, h1, h2⟩ := implLatOf_j (x := a) hp hc0 hz (hdet_dvd (e := 0) (pow_vl_dvd hp hc0) hdvd) ha hc (by omega)
      refine ⟨r, ?_, .inr ⟨⟨hc0, hle⟩, h2⟩⟩
      rw [bnd (valuation_any hp (by omega) (by omega)), bnd (valuation_any hp (by omega) (by omega))]
      have v1 := vl_le_62 hp hc0 (by omega) (by omega)
      have : ¬ vx p d < vx p c := by
       unfold vx
       rw [if_neg hc0]
       split
       ·omega
       ·rename_i hd0; rcases hle with h | h; exact absurd h hd0; omega
      simp only [if_neg this]
      exact h1
    obtain ⟨r, s1, s2⟩ := hsp
    obtain ⟨r', i1, i2⟩ := hip
    have hrr : r = r' := by
     rcases s2 with ⟨⟨c0, s3⟩, s4⟩ | ⟨⟨d0, s3⟩, s4⟩ <;> rcases i2 with ⟨⟨d0', i3⟩, i4⟩ | ⟨⟨c0', i3⟩, i4⟩
     ·exfalso
      rcases s3 with h | h
      ·exact d0' h
      ·rcases i3 with h' | h'
       ·exact c0 h'
       ·omega
     ·exact LatOfIs.same s4 i4 hp c0
     ·exact LatOfIs.same s4 i4 hp d0
     ·rcases i3 with h | h
      ·exact absurd h d0
      ·rcases s3 with h' | h'
       ·exact absurd h' c0'
       ·exact (LatOfIs.uniq hp c0' d0 (by omega) hz i4 s4).symm
    subst hrr
    refine ⟨r, hspec _ s1, himpl _ i1, .inr (.inr (.inr ⟨hp, ⟨ha, hb, hc, hd⟩, hz, ?_⟩))⟩
    rcases s2 with ⟨⟨c0, s3⟩, s4⟩ | ⟨⟨d0, s3⟩, s4⟩
    ·exact .inr ⟨c0, vx_dvd hp c0 (by rcases s3 with h | h; exact .inl h; exact .inr (by omega)), s4⟩
    ·exact .inl ⟨d0, vx_dvd hp d0 s3, s4⟩
  ·refine ⟨(0, 0, 0, 2), ?_, ?_, .inr (.inl ⟨hp, hr, rfl⟩)⟩
   ·simp only [l01In_eq, Option.bind_some]
    have bad : Ev (fun k => spec_LatticeOf.j0 k p a b c d true) (0, 0, 0, 2) := by
     refine Ev.step (fun k => by rw [spec_LatticeOf.j0]) ?_
     simp only [if_true]; exact Ev.now _
    by_cases ha : -1000000 ≤ a ∧ a ≤ 1000000
    ·simp only [ha, and_self, decide_true, if_true]
     by_cases hb : -1000000 ≤ b ∧ b ≤ 1000000
     ·simp only [hb, and_self, decide_true, if_true]
      by_cases hc : -1000000 ≤ c ∧ c ≤ 1000000
      ·simp only [hc, and_self, decide_true, if_true]
       have hd : ¬ (-1000000 ≤ d ∧ d ≤ 1000000) := fun h => hr ⟨ha, hb, hc, h⟩
       simp only [hd, decide_false, Bool.not_false]
       exact bad
      ·simp only [hc, decide_false, if_neg Bool.false_ne_true]; exact bad
     ·simp only [hb, decide_false, if_neg Bool.false_ne_true]; exact bad
    ·simp only [ha, decide_false, if_neg Bool.false_ne_true]; exact bad
   ·rw [bnd (within4 (by omega) (by omega))]
    simp only [hr, decide_false, if_neg Bool.false_ne_true]; exact Ev.now _
 ·simp only [hp, decide_false, if_neg Bool.false_ne_true]
  exact ⟨_, Ev.now _, Ev.now _, .inl ⟨hp, rfl⟩⟩
def Src (l : List Int) (at_ : Int) : Prop := (∀ x ∈ l, 0 ≤ x ∧ x ≤ 255) ∧ 0 ≤ at_ ∧ at_ ≤ l.length ∧ l.length ≤ 4097
theorem mask34 {x : Int} (h0 : 0 ≤ x) (h1 : x < 18446744073709551616) : Go.bits .and .u64 x 17179869183 = x % 17179869184 := by
 have := bits_mask .u64 64 (by decide) wraps_u64 34 (by decide) x h0 (by simpa using h1)
 simpa using this
theorem rd_mem {l : List Int} {i : Int} (h0 : 0 ≤ i) (h1 : i < l.length) : rd l i ∈ l := by
 unfold rd
 rw [List.getD_eq_getElem?_getD, List.getElem?_eq_getElem (by omega)]
 exact List.getElem_mem _
theorem tmod_in {x n : Int} (h0 : 0 ≤ x) (h1 : 1 ≤ n) : 0 ≤ Int.tmod x n ∧ Int.tmod x n < n := by
 rw [Int.tmod_eq_emod_of_nonneg h0]
 exact ⟨Int.emod_nonneg _ (by omega), Int.emod_lt_of_pos _ (by omega)⟩
theorem next_eq {l : List Int} {c h n : Int} (hs : Src l c) (hn : 1 ≤ n) : ∃ x c' h', spec_l01Next.f l c h n = some (x, c', h') ∧ (0 ≤ x ∧ x < n) ∧ Src l c' := by
 obtain ⟨hb, c0, c1, hl⟩ := hs
 unfold spec_l01Next.f
 simp only [if_neg (show ¬ n < 1 by omega), if_neg (show ¬ n = 0 by omega)]
 have hw : ∀ y : Int, (0 ≤ IntKind.u64.wrap y / 8388608) ∧ IntKind.u64.wrap y / 8388608 < 18446744073709551616 := fun y => by rw [wrapu]; omega
 rw [mask34 (hw _).1 (hw _).2]
 generalize IntKind.u64.wrap (IntKind.u64.wrap (h * 6364136223846793005) + 1442695040888963407) = H
 have hm : 0 ≤ H / 8388608 % 17179869184 ∧ H / 8388608 % 17179869184 < 17179869184 := by omega
 generalize H / 8388608 % 17179869184 = y at *
 rw [wrap_id (x := y) (by omega) (by omega)]
 by_cases hc : c < (l.length : Int)
 ·have hr := hb _ (rd_mem c0 hc)
  simp only [if_pos hc, if_pos c0]
  rw [wrap_id (x := rd l c) (by omega) (by omega), wrap_id (x := y + rd l c) (by omega) (by omega), wrap_id (x := c + 1) (by omega) (by omega)]
  exact ⟨_, _, _, rfl, tmod_in (by omega) hn, hb, by omega, by omega, hl⟩
 ·simp only [if_neg hc]
  exact ⟨_, _, _, rfl, tmod_in (by omega) hn, hb, c0, c1, hl⟩
theorem pick_eq {l : List Int} {c h : Int} {xs : List Int} (hs : Src l c) (hx : 1 ≤ xs.length) (hx' : xs.length ≤ 1000) : ∃ x c' h', spec_l01Pick.f l c h xs = some (x, c', h') ∧ x ∈ xs ∧ Src l c' := by
 unfold spec_l01Pick.f
 obtain ⟨x, c', h', e, hr, hs'⟩ := next_eq (h := h) hs (show 1 ≤ (xs.length : Int) by omega)
 rw [e]
 simp only [Option.bind_some, if_pos hr.1, if_pos hr.2]
 exact ⟨_, _, _, rfl, rd_mem hr.1 hr.2, hs'⟩
theorem from_l {l : List Int} : ∀ (d i : Nat) (h : Int), i + d = l.length → ∃ h', Ev (fun k => spec_l01From.l0 k l i l 0 h) (l, 0, h') := by
 intro d
 induction d with
 | zero =>
  intro i h hi
  refine ⟨h, Ev.step (fun k => by rw [spec_l01From.l0]) ?_⟩
  simp only [if_neg (show ¬ (i : Int) < (l.length : Int) by omega)]
  exact Ev.now _
 | succ d ih =>
  intro i h hi
  by_cases h4 : (i : Int) < 4096
  ·obtain ⟨h', e⟩ := ih (i + 1) (IntKind.u64.wrap ((IntKind.u64.wrap ((IntKind.u64.wrap (h * 1099511628211)) + (IntKind.u64.wrap (rd l i)))) + 71)) (by omega)
   refine ⟨h', Ev.step (fun k => by rw [spec_l01From.l0]) ?_⟩
   simp only [if_pos (show (i : Int) < (l.length : Int) by omega), if_pos h4, if_pos (show (0 : Int) ≤ i by omega)]
   rw [wrap_id (x := (i : Int) + 1) (by omega) (by omega)]
   exact e
  ·refine ⟨h, Ev.step (fun k => by rw [spec_l01From.l0]) ?_⟩
   simp only [if_pos (show (i : Int) < (l.length : Int) by omega), if_neg h4]
   exact Ev.now _
theorem from_ev {l : List Int} (hb : ∀ x ∈ l, (Lit.int .u8 x).wf = true) (hl : l.length ≤ 4097) : ∃ h, Ev (fun k => spec_l01From.f k l) (l, 0, h) ∧ Src l 0 := by
 obtain ⟨h, e⟩ := from_l (l := l) l.length 0 (IntKind.u64.wrap (12527 + (IntKind.u64.wrap ((l.length : Int))))) (by omega)
 refine ⟨h, e, fun x hx => ?_, by omega, by omega, hl⟩
 have := hb x hx
 simp [Lit.wf, IntKind.min, IntKind.max, IntKind.signed, IntKind.bits] at this; omega
def Sm (x : Int) : Prop := -4000000000000 ≤ x ∧ x ≤ 4000000000000
def SmB (l t d : Int) : Prop := Sm l ∧ Sm t ∧ Sm d
theorem Bal.sm {p l t d : Int} (hp : IsP p) (h : Bal p l t d) : (-6 ≤ l ∧ l ≤ 6) ∧ (0 ≤ t ∧ t ≤ 13841287201) ∧ 0 ≤ d ∧ d ≤ 6 := by
 have h1 := h.small hp
 unfold Bal at h
 split at h <;> omega
theorem Bal.zero {p l : Int} (hp : IsP p) (h : -6 ≤ l ∧ l ≤ 6) : Bal p l 0 0 := by
 by_cases hl : l + 0 ≤ 0
 ·rw [Bal_low hl]; omega
 ·rw [Bal_high hl]
  have := pow_pos' hp (l + 0).toNat
  exact ⟨h.1, h.2, by omega, by omega, by omega, this, .inl rfl⟩
theorem drawBall_ev {l : List Int} {c h p : Int} (hp : IsP p) (hs : Src l c) : ∃ lv t d c' h', Ev (fun k => spec_l01Draw.f k l c h p) (lv, t, d, c', h') ∧ Bal p lv t d ∧ Src l c' := by
 unfold spec_l01Draw.f
 obtain ⟨x1, c1, h1, e1, r1, s1⟩ := next_eq (h := h) hs (show (1 : Int) ≤ 13 by omega)
 obtain ⟨lv, c2, h2, e2, r2, s2⟩ := pick_eq (h := h1) (xs := [0, 1, 2, 3, wrap64 (x1 - 6)]) s1 (by simp) (by simp)
 obtain ⟨x3, c3, h3, e3, r3, s3⟩ := next_eq (h := h2) s2 (show (1 : Int) ≤ 6 by omega)
 have hlv : -6 ≤ lv ∧ lv ≤ 6 := by
  rw [wrap_id (x := x1 - 6) (by omega) (by omega)] at r2
  simp only [List.mem_cons, List.not_mem_nil, or_false] at r2; omega
 simp only [e1, e2, e3, Option.bind_some]
 by_cases h0 : x3 = 0
 ·simp only [if_pos h0]
  exact ⟨_, _, _, _, _, Ev.now _, Bal.zero hp hlv, s3⟩
 ·simp only [if_neg h0]
  obtain ⟨x4, c4, h4, e4, r4, s4⟩ := next_eq (h := h3) s3 (show (1 : Int) ≤ 20 by omega)
  obtain ⟨x5, c5, h5, e5, r5, s5⟩ := next_eq (h := h4) s4 (show (1 : Int) ≤ 2000000 by omega)
  obtain ⟨nm, c6, h6, e6, r6, s6⟩ := pick_eq (h := h5) (xs := [wrap64 (x4 - 10), wrap64 (x5 - 1000000)]) s5 (by simp) (by simp)
  obtain ⟨x7, c7, h7, e7, r7, s7⟩ := next_eq (h := h6) s6 (show (1 : Int) ≤ 7 by omega)
  obtain ⟨ex, c8, h8, e8, r8, s8⟩ := pick_eq (h := h7) (xs := [0, 0, 1, 2, x7]) s7 (by simp) (by simp)
  have hnm : -1000000 ≤ nm ∧ nm ≤ 1000000 := by
   rw [wrap_id (x := x4 - 10) (by omega) (by omega), wrap_id (x := x5 - 1000000) (by omega) (by omega)] at r6
   simp only [List.mem_cons, List.not_mem_nil, or_false] at r6; omega
  have hex : 0 ≤ ex ∧ ex ≤ 6 := by
   simp only [List.mem_cons, List.not_mem_nil, or_false] at r8; omega
  simp only [e4, e5, e6, e7, e8, Option.bind_some]
  have hof := l01Of_pow (t := nm) (level := lv) hp hex (by omega)
  rw [if_pos hlv] at hof
  refine ⟨lv, ofMt p lv (mk p nm ex), (ofMd p lv (mk p nm ex) : Int), c8, h8, ?_, ofM_bal hp hlv.1 hlv.2 _, s8⟩
  rw [bnd (l01Power_ev hp (show ex ≤ 22 by omega)), bnd hof]
  simp only [if_true]
  exact Ev.now _
theorem bad_eq {l : List Int} {c h lv t d : Int} (hs : Src l c) (hb : (-6 ≤ lv ∧ lv ≤ 6) ∧ (0 ≤ t ∧ t ≤ 13841287201) ∧ 0 ≤ d ∧ d ≤ 6) : ∃ lv' t' d' c' h', spec_l01Bad.f l c h lv t d = some (lv', t', d', c', h') ∧ SmB lv' t' d' ∧ Src l c' := by
 unfold spec_l01Bad.f SmB Sm
 obtain ⟨x1, c1, h1, e1, r1, s1⟩ := next_eq (h := h) hs (show (1 : Int) ≤ 40 by omega)
 simp only [e1, Option.bind_some]
 by_cases z0 : x1 = 0
 ·obtain ⟨y, c2, h2, e2, r2, s2⟩ := pick_eq (h := h1) (xs := [-7, 7, wrap64 (lv - 1), 1099511627776]) s1 (by simp) (by simp)
  simp only [if_pos z0, e2, Option.bind_some]
  rw [wrap_id (x := lv - 1) (by omega) (by omega)] at r2
  simp only [List.mem_cons, List.not_mem_nil, or_false] at r2
  exact ⟨_, _, _, _, _, rfl, by omega, s2⟩
 ·simp only [if_neg z0]
  by_cases z1 : x1 = 1
  ·obtain ⟨y, c2, h2, e2, r2, s2⟩ := pick_eq (h := h1) (xs := [-1, wrap64 (t * 7), 1099511627776]) s1 (by simp) (by simp)
   simp only [if_pos z1, e2, Option.bind_some]
   rw [wrap_id (x := t * 7) (by omega) (by omega)] at r2
   simp only [List.mem_cons, List.not_mem_nil, or_false] at r2
   exact ⟨_, _, _, _, _, rfl, by omega, s2⟩
  ·simp only [if_neg z1]
   by_cases z2 : x1 = 2
   ·obtain ⟨y, c2, h2, e2, r2, s2⟩ := pick_eq (h := h1) (xs := [-1, wrap64 (d + 1), 7]) s1 (by simp) (by simp)
    simp only [if_pos z2, e2, Option.bind_some]
    rw [wrap_id (x := d + 1) (by omega) (by omega)] at r2
    simp only [List.mem_cons, List.not_mem_nil, or_false] at r2
    exact ⟨_, _, _, _, _, rfl, by omega, s2⟩
   ·simp only [if_neg z2]
    exact ⟨_, _, _, _, _, rfl, by omega, s1⟩
theorem prime_eq {l : List Int} {c h : Int} (hs : Src l c) : ∃ p c' h', spec_l01DrawPrime.f l c h = some (p, c', h') ∧ IsP p ∧ Src l c' := by
 unfold spec_l01DrawPrime.f
 obtain ⟨p, c1, h1, e1, r1, s1⟩ := pick_eq (h := h) (xs := [2, 2, 3, 3, 5, 7]) hs (by simp) (by simp)
 simp only [e1, Option.bind_some]
 refine ⟨_, _, _, rfl, ?_, s1⟩
 simp only [List.mem_cons, List.not_mem_nil, or_false] at r1
 unfold IsP; omega
theorem spoil_ev {l : List Int} {c h : Int} (hs : Src l c) : ∃ p lv t d c' h', Ev (fun k => spec_l01Spoil.f k l c h) (p, lv, t, d, c', h') ∧ Sm p ∧ SmB lv t d ∧ Src l c' := by
 unfold spec_l01Spoil.f
 obtain ⟨p, c1, h1, e1, r1, s1⟩ := prime_eq (h := h) hs
 obtain ⟨lv, t, d, c2, h2, e2, r2, s2⟩ := drawBall_ev (h := h1) r1 s1
 obtain ⟨lv', t', d', c3, h3, e3, r3, s3⟩ := bad_eq (h := h2) s2 (Bal.sm r1 r2)
 obtain ⟨x4, c4, h4, e4, r4, s4⟩ := next_eq (h := h3) s3 (show (1 : Int) ≤ 40 by omega)
 by_cases z : x4 = 0
 ·obtain ⟨q, c5, h5, e5, r5, s5⟩ := pick_eq (h := h4) (xs := [0, 1, 4, 11, -3]) s4 (by simp) (by simp)
  refine ⟨q, lv', t', d', c5, h5, ?_, ?_, r3, s5⟩
  ·simp only [e1, Option.bind_some]
   rw [bnd e2]
   simp only [e3, e4, Option.bind_some, if_pos z, e5]
   exact Ev.now _
  ·simp only [List.mem_cons, List.not_mem_nil, or_false] at r5
   unfold Sm; omega
 ·refine ⟨p, lv', t', d', c4, h4, ?_, ?_, r3, s4⟩
  ·simp only [e1, Option.bind_some]
   rw [bnd e2]
   simp only [e3, e4, Option.bind_some, if_neg z]
   exact Ev.now _
  ·have := r1.two_le; have := r1.le_seven; unfold Sm; omega
theorem powAny_l {b : Int} (hb : 0 ≤ b ∧ b ≤ 7) : ∀ (d : Nat) (a : Int), d ≤ 1000 → 0 ≤ a → a * 7 ^ d ≤ 1000000000 → ∃ r, Ev (fun k => spec_l01Power.l0 k b d a) r ∧ 0 ≤ r ∧ r ≤ a * 7 ^ d := by
 intro d
 induction d with
 | zero =>
  intro a hd a0 a1
  refine ⟨a, Ev.step (fun k => by rw [spec_l01Power.l0]) ?_, a0, by simp⟩
  simp only [if_neg (show ¬ ((0 : Nat) : Int) > 0 by omega)]
  exact Ev.now _
 | succ d ih =>
  intro a hd a0 a1
  have hp : (1 : Int) ≤ 7 ^ d := Int.pow_pos (by omega)
  have m1 : a * b ≤ a * 7 := Int.mul_le_mul_of_nonneg_left hb.2 a0
  have m0 : 0 ≤ a * b := Int.mul_nonneg a0 hb.1
  have m2 : a * b * 7 ^ d ≤ a * 7 * 7 ^ d := Int.mul_le_mul_of_nonneg_right m1 (by omega)
  have e : a * 7 ^ (d + 1) = a * 7 * 7 ^ d := by rw [Int.pow_succ, Int.mul_comm (7 ^ d), ← Int.mul_assoc]
  have m3 : a * b * 1 ≤ a * b * 7 ^ d := Int.mul_le_mul_of_nonneg_left hp m0
  obtain ⟨r, hr, r0, r1⟩ := ih (a * b) (by omega) m0 (by omega)
  refine ⟨r, Ev.step (fun k => by rw [spec_l01Power.l0]) ?_, r0, by omega⟩
  simp only [if_pos (show ((d + 1 : Nat) : Int) > 0 by omega)]
  rw [show wrap64 (((d + 1 : Nat) : Int) - 1) = (d : Int) by rw [wrap_id (by omega) (by omega)]; omega, wrap_id (x := a * b) (by omega) (by omega)]
  exact hr
theorem powAny_ev {b e : Int} (hb : 0 ≤ b ∧ b ≤ 7) (he : 0 ≤ e ∧ e ≤ 6) : ∃ r, Ev (fun k => spec_l01Power.f k b e) r ∧ 0 ≤ r ∧ r ≤ 117649 := by
 obtain ⟨n, rfl⟩ : ∃ n : Nat, e = n := ⟨e.toNat, by omega⟩
 have h7 : (7 : Int) ^ n ≤ 7 ^ 6 := by
  obtain ⟨d, hd⟩ := Nat.le.dest (show n ≤ 6 by omega)
  rw [← hd, Int.pow_add]
  have p1 : (1 : Int) ≤ 7 ^ d := Int.pow_pos (by omega)
  have p2 : (0 : Int) < 7 ^ n := Int.pow_pos (by omega)
  have := Int.mul_le_mul_of_nonneg_left p1 (Int.le_of_lt p2)
  omega
 have e6 : (7 : Int) ^ 6 = 117649 := by decide
 obtain ⟨r, hr, r0, r1⟩ := powAny_l hb n 1 (by omega) (by omega) (by omega)
 exact ⟨r, hr, r0, by omega⟩
def insL (x : Int) : List Int → List Int
 | [] => [x]
 | y :: ys => if y < x then y :: insL x ys else x :: y :: ys
theorem insL_length (x : Int) (ys : List Int) : (insL x ys).length = ys.length + 1 := by
 induction ys with
 | nil => rfl
 | cons y ys ih => unfold insL; split <;> simp [ih]
theorem insL_perm (x : Int) (ys : List Int) : (insL x ys).Perm (x :: ys) := by
 induction ys with
 | nil => exact List.Perm.refl _
 | cons y ys ih =>
  unfold insL; split
  ·exact (ih.cons y).trans (List.Perm.swap x y ys)
  ·exact List.Perm.refl _
def isortL (acc : List Int) : List Int → List Int
 | [] => acc
 | x :: xs => isortL (insL x acc) xs
theorem isortL_perm (xs : List Int) : ∀ acc, (isortL acc xs).Perm (acc ++ xs) := by
 induction xs with
 | nil => intro acc; rw [List.append_nil]; exact List.Perm.refl _
 | cons x xs ih =>
  intro acc
  refine (ih (insL x acc)).trans ?_
  refine ((insL_perm x acc).append_right xs).trans ?_
  exact List.perm_middle.symm
theorem lt_big {n : Nat} (h : n ≤ 1000000) : n < 17592186044416 := Nat.lt_of_le_of_lt h (by decide)
theorem lt_big3 {n : Nat} (h : n ≤ 1000000) : n < 5864062014805 := Nat.lt_of_le_of_lt h (by decide)
theorem l01Own_small {l : List Int} (h : l.length ≤ 1000000) : spec_l01Own.f l = some l := by
 unfold spec_l01Own.f
 rw [Option.bind_some, if_pos (lt_big (by rw [List.length_nil]; omega)), List.nil_append]
theorem sorted_l1 {x : Int} {p0 q0 : List Int} {R : List Int} (hl : (p0 ++ x :: q0).length ≤ 100000) :
  ∀ (ys pre : List Int), (pre ++ ys).length ≤ 100000 → Ev (fun k => spec_l03Sorted.l0 k (p0 ++ x :: q0) (pre ++ insL x ys) ((p0 ++ [x]).length : Int)) R →
  Ev (fun k => spec_l03Sorted.l1 k (p0 ++ x :: q0) (pre ++ ys) p0.length pre.length) R := by
 have e1 : wrap64 ((p0.length : Int) + 1) = ((p0 ++ [x]).length : Int) := by
  have : p0.length ≤ 100000 := by rw [List.length_append] at hl; omega
  rw [wrap_id (by omega) (by omega)]; simp
 have hlt : (p0.length : Int) < ((p0 ++ x :: q0).length : Int) := by rw [List.length_append, List.length_cons]; omega
 intro ys
 induction ys with
 | nil =>
  intro pre hp h
  refine Ev.step (fun k => by rw [spec_l03Sorted.l1]) ?_
  rw [List.append_nil] at hp ⊢
  have ht : pre.take (pre.length : Int).toNat = pre := by simp
  have hd : pre.drop (pre.length : Int).toNat = [] := by simp
  simp only [if_neg (Int.lt_irrefl _), if_pos (show (0 : Int) ≤ (p0.length : Int) by omega), if_pos hlt, rd_at, Option.bind_some, if_pos (show (0 : Int) ≤ (pre.length : Int) by omega), if_pos (Int.le_refl _), ht, hd, List.append_nil,
   if_pos (show [x].length + ([] : List Int).length < 17592186044416 from lt_big (by rw [List.length_singleton, List.length_nil]; omega)), l01Own_small (show pre.length ≤ 1000000 by omega), if_pos (show pre.length + [x].length < 17592186044416 from lt_big (by rw [List.length_singleton]; omega)), e1]
  exact h
 | cons y ys ih =>
  intro pre hp h
  refine Ev.step (fun k => by rw [spec_l03Sorted.l1]) ?_
  have hlt2 : (pre.length : Int) < ((pre ++ y :: ys).length : Int) := by rw [List.length_append, List.length_cons]; omega
  have hp' : pre.length + (ys.length + 1) ≤ 100000 := by rw [List.length_append, List.length_cons] at hp; omega
  have e2 : wrap64 ((pre.length : Int) + 1) = ((pre ++ [y]).length : Int) := by rw [wrap_id (by omega) (by omega)]; simp
  simp only [if_pos hlt2, if_pos (show (0 : Int) ≤ (p0.length : Int) by omega), if_pos (show (0 : Int) ≤ (pre.length : Int) by omega), if_pos hlt, rd_at]
  by_cases hy : y < x
  ·simp only [if_pos hy, e2]
   have es : pre ++ y :: ys = (pre ++ [y]) ++ ys := by simp
   rw [es] at hp ⊢
   refine ih (pre ++ [y]) hp ?_
   rw [insL, if_pos hy] at h
   simpa using h
  ·rw [insL, if_neg hy] at h
   have ht : (pre ++ y :: ys).take (pre.length : Int).toNat = pre := by simp
   have hd : (pre ++ y :: ys).drop (pre.length : Int).toNat = y :: ys := by simp
   simp only [if_neg hy, Option.bind_some, if_pos (Int.le_of_lt hlt2), ht, hd, if_pos (show [x].length + (y :: ys).length < 17592186044416 from lt_big (by rw [List.length_singleton, List.length_cons]; omega)), l01Own_small (show pre.length ≤ 1000000 by omega),
    if_pos (show pre.length + ([x] ++ y :: ys).length < 17592186044416 from lt_big (by rw [List.length_append, List.length_singleton, List.length_cons]; omega)), e1]
   exact h
theorem sorted_l0 : ∀ (ys pre acc : List Int), (pre ++ ys).length ≤ 10000 → acc.length ≤ pre.length → Ev (fun k => spec_l03Sorted.l0 k (pre ++ ys) acc pre.length) (isortL acc ys) := by
 intro ys
 induction ys with
 | nil =>
  intro pre acc hl ha
  refine Ev.step (fun k => by rw [spec_l03Sorted.l0]) ?_
  simp only [List.append_nil, if_neg (Int.lt_irrefl _)]
  exact Ev.now _
 | cons y ys ih =>
  intro pre acc hl ha
  have hlt : (pre.length : Int) < ((pre ++ y :: ys).length : Int) := by rw [List.length_append, List.length_cons]; omega
  refine Ev.step (fun k => by rw [spec_l03Sorted.l0]) ?_
  simp only [if_pos hlt]
  have hl2 : pre.length + (ys.length + 1) ≤ 10000 := by rw [List.length_append, List.length_cons] at hl; omega
  refine sorted_l1 (p0 := pre) (q0 := ys) (by omega) acc [] (by rw [List.nil_append]; omega) ?_
  rw [List.nil_append]
  have es : pre ++ y :: ys = (pre ++ [y]) ++ ys := by simp
  rw [es] at hl ⊢
  exact ih (pre ++ [y]) (insL y acc) hl (by rw [insL_length, List.length_append, List.length_singleton]; omega)
theorem sorted_ev {xs : List Int} (h : xs.length ≤ 10000) : Ev (fun k => spec_l03Sorted.f k xs) (isortL [] xs) := by
 unfold spec_l03Sorted.f
 exact sorted_l0 xs [] [] (by simpa using h) (Nat.le_refl _)
def mixAt (p u m : Int) (n k i : Nat) : Int := (m * p ^ (n - k) % p ^ (u.toNat + k) + i * p ^ u.toNat) % p ^ (u.toNat + k)
def mixes (p u m : Int) (n k c : Nat) : List Int := (List.range c).map (mixAt p u m n k)
theorem mixes_succ (p u m : Int) (n k c : Nat) : mixes p u m n k (c + 1) = mixes p u m n k c ++ [mixAt p u m n k c] := by
 unfold mixes; rw [List.range_succ, List.map_append]; rfl
theorem mixes_length (p u m : Int) (n k c : Nat) : (mixes p u m n k c).length = c := by unfold mixes; simp
def latAt (u d : Int) (n k : Nat) (x : Int) : S27 := ⟨u + k, x, d + n - k⟩
def rowsI (p u m d : Int) (n c : Nat) : List S27 := (List.range c).flatMap fun k => (mixes p u m n k (p ^ k).toNat).map (latAt u d n k)
def rowsS (p u m d : Int) (n c : Nat) : List S27 := (List.range c).flatMap fun k => (isortL [] (mixes p u m n k (p ^ k).toNat)).map (latAt u d n k)
theorem rowsI_succ (p u m d : Int) (n c : Nat) : rowsI p u m d n (c + 1) = rowsI p u m d n c ++ (mixes p u m n c (p ^ c).toNat).map (latAt u d n c) := by
 unfold rowsI; rw [List.range_succ, List.flatMap_append]; simp
theorem rowsS_succ (p u m d : Int) (n c : Nat) : rowsS p u m d n (c + 1) = rowsS p u m d n c ++ (isortL [] (mixes p u m n c (p ^ c).toNat)).map (latAt u d n c) := by
 unfold rowsS; rw [List.range_succ, List.flatMap_append]; simp
theorem rows_perm (p u m d : Int) (n c : Nat) : (rowsS p u m d n c).Perm (rowsI p u m d n c) := by
 induction c with
 | zero => exact List.Perm.refl _
 | succ c ih =>
  rw [rowsS_succ, rowsI_succ]
  exact ih.append (List.Perm.map _ (by simpa using isortL_perm (mixes p u m n c (p ^ c).toNat) []))
def cntL (p : Int) : Nat → Int
 | 0 => 1
 | n + 1 => cntL p n + p ^ (n + 1)
theorem rowsI_length (p u m d : Int) (n : Nat) {q : Int} (hp : 0 ≤ p) : ∀ c : Nat, ((rowsI p u m d n (c + 1)).length : Int) = cntL p c := by
 intro c
 induction c with
 | zero => rw [rowsI_succ]; simp [rowsI, mixes_length, cntL]
 | succ c ih =>
  rw [rowsI_succ, List.length_append, List.length_map, mixes_length]
  have : 0 ≤ p ^ (c + 1) := Int.pow_nonneg hp
  rw [show cntL p (c + 1) = cntL p c + p ^ (c + 1) from rfl, ← ih]
  omega
theorem cnt_eq {p : Int} (h : IsP p) {n : Nat} (hn : n ≤ 4) : Int.tdiv (p ^ (n + 1) - 1) (p - 1) = cntL p n ∧ 0 ≤ cntL p n ∧ cntL p n ≤ 2801 := by
 unfold IsP at h
 rcases h with rfl | rfl | rfl | rfl <;> rcases (by omega : n = 0 ∨ n = 1 ∨ n = 2 ∨ n = 3 ∨ n = 4) with rfl | rfl | rfl | rfl | rfl <;> decide
theorem rowsI_len {p u m d : Int} {n c : Nat} (h : IsP p) (hc : c ≤ 5) : (rowsI p u m d n c).length ≤ 2801 := by
 cases c with
 | zero => exact Nat.zero_le _
 | succ c =>
  have e := rowsI_length p u m d n (q := 0) (Int.le_of_lt h.pos) c
  have := (cnt_eq h (show c ≤ 4 by omega)).2.2
  omega
theorem rowsS_len {p u m d : Int} {n c : Nat} (h : IsP p) (hc : c ≤ 5) : (rowsS p u m d n c).length ≤ 2801 := by
 rw [(rows_perm p u m d n c).length_eq]; exact rowsI_len h hc
def InsR (p u m d n : Int) : List S27 × Int := if IsP p ∧ Lat p u m d then
 (if 0 ≤ n ∧ n ≤ 4 then (if cntL p n.toNat > 100 then ([], 3) else if u + n > 12 then ([], 3) else if d + n > 12 then ([], 3) else (rowsS p u m d n.toNat (n.toNat + 1), 0)) else ([], 2)) else ([], 1)
theorem InsR_length (p u m d n : Int) : (InsR p u m d n).1.length ≤ 1000000 := by
 unfold InsR
 split
 ·rename_i h
  split
  ·split
   ·simp
   ·split
    ·simp
    ·split
     ·simp
     ·have := rowsS_len (u := u) (m := m) (d := d) (n := n.toNat) (c := n.toNat + 1) h.1 (by omega)
      dsimp only; omega
  ·simp
 ·simp
theorem inside_num {p u m d : Int} {n c i : Nat} (h : IsP p) (hl : Lat p u m d) (hn : n ≤ 4) (hc : c ≤ n) (hu : u + n ≤ 12) (hi : (i : Int) < p ^ c) :
  0 < p ^ (u.toNat + c) ∧ p ^ (u.toNat + c) ≤ 13841287201 ∧ 0 ≤ p ^ u.toNat * i ∧ p ^ u.toNat * i ≤ 13841287201 * 2401 ∧ 0 ≤ m * p ^ (n - c) % p ^ (u.toNat + c) ∧ m * p ^ (n - c) % p ^ (u.toNat + c) < p ^ (u.toNat + c) ∧ (i : Int) < 2401 := by
 obtain ⟨u0, u1, d0, d1, m0, m1⟩ := hl
 have a1 := pow_pos' h (u.toNat + c)
 have a2 := pow_le_seven h (m := u.toNat + c) (n := 12) (by omega)
 have a3 := pow_le_seven h (m := c) (n := 4) (by omega)
 have a4 := pow_le_seven h (m := u.toNat) (n := 12) (by omega)
 have a5 := pow_pos' h u.toNat
 have s1 : (7 : Int) ^ 12 = 13841287201 := by decide
 have s2 : (7 : Int) ^ 4 = 2401 := by decide
 rw [s1] at a2 a4
 rw [s2] at a3
 refine ⟨a1, a2, Int.mul_nonneg (Int.le_of_lt a5) (by omega), Int.mul_le_mul a4 (by omega) (by omega) (by omega), Int.emod_nonneg _ (Int.ne_of_gt a1), Int.emod_lt_of_pos _ a1, by omega⟩
theorem insideS_l3 {p u m d : Int} {n c : Nat} {R : List S27 × Int} (hd : 0 ≤ d ∧ d ≤ 12) (hu : 0 ≤ u ∧ u ≤ 12) (hn : n ≤ 4) (hc : c ≤ n) {base : List S27} (hb : base.length ≤ 3000) :
  ∀ (ys pre : List Int), (pre ++ ys).length ≤ 3000 → Ev (fun k => spec_LatticesInside.l1 k p n (base ++ (pre ++ ys).map (latAt u d n c)) ((c + 1 : Nat) : Int) u m d) R →
  Ev (fun k => spec_LatticesInside.l3 k p n (base ++ pre.map (latAt u d n c)) c (u + c) (pre ++ ys) pre.length u m d) R := by
 intro ys
 induction ys with
 | nil =>
  intro pre hl hR
  refine Ev.step (fun k => by rw [spec_LatticesInside.l3]) ?_
  have e1 : wrap64 ((c : Int) + 1) = ((c + 1 : Nat) : Int) := by rw [wrap_id (by omega) (by omega)]; omega
  rw [List.append_nil] at hR ⊢
  simp only [if_neg (Int.lt_irrefl _), e1]
  exact hR
 | cons y ys ih =>
  intro pre hl hR
  refine Ev.step (fun k => by rw [spec_LatticesInside.l3]) ?_
  have hlt : (pre.length : Int) < ((pre ++ y :: ys).length : Int) := by rw [List.length_append, List.length_cons]; omega
  have hl2 : pre.length + (ys.length + 1) ≤ 3000 := by rw [List.length_append, List.length_cons] at hl; omega
  have e2 : wrap64 ((pre.length : Int) + 1) = ((pre ++ [y]).length : Int) := by rw [wrap_id (by omega) (by omega)]; simp
  have e5 : wrap64 (wrap64 (d + n) - c) = d + n - c := by rw [wrap_id (x := d + n) (by omega) (by omega), wrap_id (by omega) (by omega)]
  have hlen : (base ++ pre.map (latAt u d n c)).length < 5864062014805 := lt_big3 (by rw [List.length_append, List.length_map]; omega)
  simp only [if_pos hlt, if_pos (show (0 : Int) ≤ (pre.length : Int) by omega), rd_at, if_pos hlen, e2, e5]
  have es : pre ++ y :: ys = (pre ++ [y]) ++ ys := by simp
  have e7 : base ++ pre.map (latAt u d n c) ++ [(⟨u + c, y, d + n - c⟩ : S27)] = base ++ (pre ++ [y]).map (latAt u d n c) := by
   rw [List.map_append, List.append_assoc]; rfl
  rw [e7]
  rw [es] at hl hR ⊢
  exact ih (pre ++ [y]) hl hR
theorem insideS_l2 {p u m d : Int} {n c : Nat} {R : List S27 × Int} (h : IsP p) (hl : Lat p u m d) (hn : n ≤ 4) (hc : c ≤ n) (hu : u + n ≤ 12)
  (hR : Ev (fun k => spec_LatticesInside.l1 k p n (rowsS p u m d n (c + 1)) ((c + 1 : Nat) : Int) u m d) R) :
  ∀ q i : Nat, i + q = (p ^ c).toNat → Ev (fun k => spec_LatticesInside.l2 k p n (rowsS p u m d n c) c (u + c) (p ^ (u.toNat + c)) (mixes p u m n c i) i u m d) R := by
 have hpc := pow_pos' h c
 have hpc2 := pow_le_seven h (m := c) (n := 4) (by omega)
 have s2 : (7 : Int) ^ 4 = 2401 := by decide
 rw [s2] at hpc2
 have hl' := hl
 obtain ⟨u0, u1, d0, d1, m0, m1⟩ := hl'
 intro q
 induction q with
 | zero =>
  intro i hi
  refine Ev.step (fun k => by rw [spec_LatticesInside.l2]) ?_
  rw [bnd (l01Power_ev h (show (c : Int) ≤ 22 by omega)), Int.toNat_natCast]
  simp only [if_neg (show ¬ (i : Int) < p ^ c by omega)]
  have hi' : i = (p ^ c).toNat := by omega
  have hml : (mixes p u m n c i).length ≤ 2401 := by rw [mixes_length]; omega
  rw [bnd (sorted_ev (show (mixes p u m n c i).length ≤ 10000 by omega))]
  have hil : (isortL [] (mixes p u m n c i)).length = (mixes p u m n c i).length := by have := (isortL_perm (mixes p u m n c i) []).length_eq; rwa [List.nil_append] at this
  have := insideS_l3 (p := p) (m := m) (R := R) ⟨d0, d1⟩ ⟨u0, u1⟩ hn hc (base := rowsS p u m d n c) (by have := rowsS_len (u := u) (m := m) (d := d) (n := n) (c := c) h (by omega); omega) (isortL [] (mixes p u m n c i)) [] (by rw [List.nil_append]; omega) (by
   rw [List.nil_append, hi', ← rowsS_succ]; exact hR)
  rw [List.map_nil, List.append_nil, List.nil_append] at this
  exact this
 | succ q ih =>
  intro i hi
  have hlt : (i : Int) < p ^ c := by omega
  obtain ⟨a1, a2, a3, a4, a5, a6, a7⟩ := inside_num (d := d) h hl hn hc hu hlt
  refine Ev.step (fun k => by rw [spec_LatticesInside.l2]) ?_
  rw [bnd (l01Power_ev h (show (c : Int) ≤ 22 by omega)), Int.toNat_natCast]
  have ew : wrap64 ((n : Int) - c) = ((n - c : Nat) : Int) := by rw [wrap_id (by omega) (by omega)]; omega
  simp only [if_pos hlt, ew]
  rw [bnd (l01Power_ev h (show ((n - c : Nat) : Int) ≤ 22 by omega)), Int.toNat_natCast]
  simp only [l01MulMod_eq a1 (show p ^ (u.toNat + c) ≤ 100000000000 by omega), Option.bind_some]
  rw [bnd (l01Power_ev h (show u ≤ 22 by omega))]
  have ec : (i : Int) * p ^ u.toNat = p ^ u.toNat * i := Int.mul_comm _ _
  have e2 : wrap64 (m * p ^ (n - c) % p ^ (u.toNat + c) + wrap64 ((i : Int) * p ^ u.toNat)) = m * p ^ (n - c) % p ^ (u.toNat + c) + (i : Int) * p ^ u.toNat := by
   rw [wrap_id (x := (i : Int) * p ^ u.toNat) (by omega) (by omega), wrap_id (by omega) (by omega)]
  have e3 : Int.tmod (m * p ^ (n - c) % p ^ (u.toNat + c) + (i : Int) * p ^ u.toNat) (p ^ (u.toNat + c)) = mixAt p u m n c i := by
   unfold mixAt; rw [Int.tmod_eq_emod_of_nonneg (by omega)]
  have e6 : wrap64 ((i : Int) + 1) = ((i + 1 : Nat) : Int) := by rw [wrap_id (by omega) (by omega)]; omega
  simp only [if_neg (Int.ne_of_gt a1), if_pos (show (mixes p u m n c i).length < 17592186044416 from lt_big (by rw [mixes_length]; exact Nat.le_trans (Nat.le_of_lt (Int.ofNat_lt.1 a7)) (by decide))), e2, e3, e6]
  rw [← mixes_succ]
  exact ih (i + 1) (by omega)
theorem insideS_l1 {p u m d : Int} {n : Nat} (h : IsP p) (hl : Lat p u m d) (hn : n ≤ 4) (hu : u + n ≤ 12) :
  ∀ q c : Nat, c + q = n + 1 → Ev (fun k => spec_LatticesInside.l1 k p n (rowsS p u m d n c) c u m d) (rowsS p u m d n (n + 1), 0) := by
 intro q
 induction q with
 | zero =>
  intro c hc
  obtain rfl : c = n + 1 := by omega
  refine Ev.step (fun k => by rw [spec_LatticesInside.l1]) ?_
  simp only [if_neg (show ¬ (((n + 1 : Nat) : Int) ≤ (n : Int)) by omega)]
  exact Ev.now _
 | succ q ih =>
  intro c hc
  have hl' := hl
  obtain ⟨u0, u1, d0, d1, m0, m1⟩ := hl'
  refine Ev.step (fun k => by rw [spec_LatticesInside.l1]) ?_
  have e4 : wrap64 (u + c) = u + c := wrap_id (by omega) (by omega)
  simp only [if_pos (show (c : Int) ≤ (n : Int) by omega), e4]
  rw [bnd (l01Power_ev h (show u + c ≤ 22 by omega)), show (u + c).toNat = u.toNat + c by omega]
  exact insideS_l2 h hl hn (show c ≤ n by omega) hu (ih (c + 1) (by omega)) (p ^ c).toNat 0 (by omega)
def csL (p : Int) : Nat → Int
 | 0 => 0
 | c + 1 => cntL p c
theorem insideS_l0 {p u m d : Int} {n : Nat} {R : List S27 × Int} (h : IsP p) (hn : n ≤ 4)
  (hR : Ev (fun k => if cntL p n > 100 then (some (([] : List S27), (3 : Int))) else (if (wrap64 (u + n)) > 12 then (some ([], 3)) else (if (wrap64 (d + n)) > 12 then (some ([], 3)) else (spec_LatticesInside.l1 k p n [] 0 u m d)))) R) :
  ∀ q c : Nat, c + q = n + 1 → Ev (fun k => spec_LatticesInside.l0 k p n (csL p c) c u m d) R := by
 intro q
 induction q with
 | zero =>
  intro c hc
  obtain rfl : c = n + 1 := by omega
  refine Ev.step (fun k => by rw [spec_LatticesInside.l0]) ?_
  simp only [if_neg (show ¬ (((n + 1 : Nat) : Int) ≤ (n : Int)) by omega), show csL p (n + 1) = cntL p n from rfl]
  exact hR
 | succ q ih =>
  intro c hc
  refine Ev.step (fun k => by rw [spec_LatticesInside.l0]) ?_
  simp only [if_pos (show (c : Int) ≤ (n : Int) by omega)]
  rw [bnd (l01Power_ev h (show (c : Int) ≤ 22 by omega)), Int.toNat_natCast]
  have e1 : wrap64 ((c : Int) + 1) = ((c + 1 : Nat) : Int) := by rw [wrap_id (by omega) (by omega)]; omega
  have e2 : csL p c + p ^ c = csL p (c + 1) := by
   cases c with
   | zero => show (0 : Int) + p ^ 0 = 1; rw [Int.pow_zero]; rfl
   | succ c => rfl
  have b := (cnt_eq h (show c ≤ 4 by omega)).2
  have e3 : wrap64 (csL p (c + 1)) = csL p (c + 1) := by rw [show csL p (c + 1) = cntL p c from rfl]; exact wrap_id (by omega) (by omega)
  simp only [e1, e2, e3]
  exact ih (c + 1) (by omega)
theorem specInside_ev {p u m d n : Int} : Ev (fun k => spec_LatticesInside.f k p u m d n) (InsR p u m d n) := by
 unfold spec_LatticesInside.f
 rw [bnd l03Code1]
 unfold InsR
 by_cases h : IsP p ∧ Lat p u m d
 ·simp only [if_pos h, if_true, l01In_eq, Option.bind_some]
  obtain ⟨hp, hl⟩ := h
  by_cases h4 : 0 ≤ n ∧ n ≤ 4
  ·simp only [decide_eq_true h4, if_true, if_pos h4]
   obtain ⟨n, rfl⟩ : ∃ k : Nat, n = k := ⟨n.toNat, by omega⟩
   have hn : n ≤ 4 := by omega
   have hl' := hl
   obtain ⟨u0, u1, d0, d1, m0, m1⟩ := hl'
   have e4 : wrap64 (u + n) = u + n := wrap_id (by omega) (by omega)
   have e5 : wrap64 (d + n) = d + n := wrap_id (by omega) (by omega)
   refine insideS_l0 hp hn ?_ (n + 1) 0 (by omega)
   simp only [e4, e5, Int.toNat_natCast]
   by_cases g1 : cntL p n > 100
   ·simp only [if_pos g1]; exact Ev.now _
   ·simp only [if_neg g1]
    by_cases g2 : u + n > 12
    ·simp only [if_pos g2]; exact Ev.now _
    ·simp only [if_neg g2]
     by_cases g3 : d + n > 12
     ·simp only [if_pos g3]; exact Ev.now _
     ·simp only [if_neg g3]
      exact insideS_l1 hp hl hn (by omega) (n + 1) 0 (by omega)
  ·simp only [decide_eq_false h4, if_neg Bool.false_ne_true, if_neg h4]
   exact Ev.now _
 ·simp only [if_neg h, if_neg (show ¬ (1 : Int) = 0 by omega)]
  exact Ev.now _
theorem cntL_pos {p : Int} (hp : 0 ≤ p) : ∀ n : Nat, 1 ≤ cntL p n := by
 intro n
 induction n with
 | zero => simp [cntL]
 | succ n ih =>
  have : 0 ≤ p ^ (n + 1) := Int.pow_nonneg hp
  simp only [cntL]
  omega
theorem InsR_one {p u m d n : Int} (h : (InsR p u m d n).2 = 0) : 1 ≤ (InsR p u m d n).1.length := by
 unfold InsR at *
 by_cases h1 : IsP p ∧ Lat p u m d
 ·rw [if_pos h1] at *
  by_cases h2 : 0 ≤ n ∧ n ≤ 4
  ·rw [if_pos h2] at *
   by_cases h3 : cntL p n.toNat > 100
   ·rw [if_pos h3] at h; exact absurd h (by decide)
   ·rw [if_neg h3] at *
    by_cases h4 : u + n > 12
    ·rw [if_pos h4] at h; exact absurd h (by decide)
    ·rw [if_neg h4] at *
     by_cases h5 : d + n > 12
     ·rw [if_pos h5] at h; exact absurd h (by decide)
     ·rw [if_neg h5] at *
      have hp := h1.1.pos
      have e := rowsI_length (u := u) (m := m) (d := d) (n := n.toNat) (q := 0) (p := p) (by omega) n.toNat
      have e2 := (rows_perm p u m d n.toNat (n.toNat + 1)).length_eq
      have e3 := cntL_pos (p := p) (by omega) n.toNat
      show 1 ≤ (rowsS p u m d n.toNat (n.toNat + 1)).length
      omega
  ·rw [if_neg h2] at h; exact absurd h (by decide)
 ·rw [if_neg h1] at h; exact absurd h (by decide)
theorem drawLat_ev {l : List Int} {c h p : Int} (hp : IsP p) (hs : Src l c) : ∃ u m d c' h', Ev (fun k => spec_l03Draw.f k l c h p) (u, m, d, c', h') ∧ Src l c' := by
 obtain ⟨x, c1, h1, e1, r1, s1⟩ := next_eq (h := h) hs (show (1 : Int) ≤ 13 by omega)
 obtain ⟨u, c2, h2, e2, r2, s2⟩ := pick_eq (h := h1) (xs := [0, 1, 2, 3, x]) s1 (by simp) (by simp)
 obtain ⟨y, c3, h3, e3, r3, s3⟩ := next_eq (h := h2) s2 (show (1 : Int) ≤ 13 by omega)
 obtain ⟨d, c4, h4, e4, r4, s4⟩ := pick_eq (h := h3) (xs := [0, 1, 2, 3, y]) s3 (by simp) (by simp)
 simp only [List.mem_cons, List.not_mem_nil, or_false] at r2 r4
 have hu : u ≤ 12 := by omega
 obtain ⟨m, c5, h5, e5, r5, s5⟩ := next_eq (h := h4) s4 (one_le_pow hp u.toNat)
 obtain ⟨z, c6, h6, e6, r6, s6⟩ := next_eq (h := h5) s5 (show (1 : Int) ≤ 3 by omega)
 have hpow := l01Power_ev hp (n := u) (by omega)
 have hn : mn u 2 ≤ 22 := by unfold mn; split <;> omega
 have hpow2 := l01Power_ev hp (n := mn u 2) hn
 by_cases z0 : z = 0
 ·refine ⟨?_, ?_, ?_, c6, h6, ?_, s6⟩
  rotate_left 3
  unfold spec_l03Draw.f
  simp only [e1, e2, e3, e4, Option.bind_some]
  rw [bnd hpow]
  simp only [e5, e6, Option.bind_some, if_pos z0]
  rw [bnd hpow2]
  simp only [if_neg (pow_ne' hp _)]
  rw [bnd hpow2]
  exact Ev.now _
 ·refine ⟨?_, ?_, ?_, c6, h6, ?_, s6⟩
  rotate_left 3
  unfold spec_l03Draw.f
  simp only [e1, e2, e3, e4, Option.bind_some]
  rw [bnd hpow]
  simp only [e5, e6, Option.bind_some, if_neg z0]
  exact Ev.now _
theorem spoilLat_ev {l : List Int} {c h : Int} (hs : Src l c) : ∃ p u m d c' h', Ev (fun k => spec_l03Spoil.f k l c h) (p, u, m, d, c', h') ∧ Src l c' := by
 obtain ⟨p, c1, h1, e1, r1, s1⟩ := prime_eq (h := h) hs
 obtain ⟨u, m, d, c2, h2, e2, s2⟩ := drawLat_ev (h := h1) r1 s1
 obtain ⟨x, c3, h3, e3, r3, s3⟩ := next_eq (h := h2) s2 (show (1 : Int) ≤ 40 by omega)
 have start : ∀ z, Ev (fun _ : Nat => if x = 0 then ((spec_l01Pick.f l c3 h3 ([(-1), 13, wrap64 (u - 1)] : List Int)).bind fun b => (some (p, b.1, m, d, b.2.1, b.2.2))) else (if x = 1 then ((spec_l01Pick.f l c3 h3 ([(-1), 13] : List Int)).bind fun b => (some (p, u, m, b.1, b.2.1, b.2.2))) else (if x = 2 then ((spec_l01Pick.f l c3 h3 ([(-1), wrap64 ((wrap64 (m * 7)) + 1)] : List Int)).bind fun b => (some (p, u, b.1, d, b.2.1, b.2.2))) else (if x = 3 then ((spec_l01Pick.f l c3 h3 ([0, 1, 4, 11] : List Int)).bind fun b => (some (b.1, u, m, d, b.2.1, b.2.2))) else (some (p, u, m, d, c3, h3)))))) z → Ev (fun k => spec_l03Spoil.f k l c h) z := by
  intro z hz
  unfold spec_l03Spoil.f
  simp only [e1, Option.bind_some]
  rw [bnd e2]
  simp only [e3, Option.bind_some]
  exact hz
 by_cases z0 : x = 0
 ·obtain ⟨y, c4, h4, e4, r4, s4⟩ := pick_eq (h := h3) (xs := [(-1), 13, wrap64 (u - 1)]) s3 (by simp) (by simp)
  exact ⟨_, _, _, _, _, _, start _ (by simp only [if_pos z0, e4, Option.bind_some]; exact Ev.now _), s4⟩
 by_cases z1 : x = 1
 ·obtain ⟨y, c4, h4, e4, r4, s4⟩ := pick_eq (h := h3) (xs := [(-1), 13]) s3 (by simp) (by simp)
  exact ⟨_, _, _, _, _, _, start _ (by simp only [if_neg z0, if_pos z1, e4, Option.bind_some]; exact Ev.now _), s4⟩
 by_cases z2 : x = 2
 ·obtain ⟨y, c4, h4, e4, r4, s4⟩ := pick_eq (h := h3) (xs := [(-1), wrap64 ((wrap64 (m * 7)) + 1)]) s3 (by simp) (by simp)
  exact ⟨_, _, _, _, _, _, start _ (by simp only [if_neg z0, if_neg z1, if_pos z2, e4, Option.bind_some]; exact Ev.now _), s4⟩
 by_cases z3 : x = 3
 ·obtain ⟨y, c4, h4, e4, r4, s4⟩ := pick_eq (h := h3) (xs := [0, 1, 4, 11]) s3 (by simp) (by simp)
  exact ⟨_, _, _, _, _, _, start _ (by simp only [if_neg z0, if_neg z1, if_neg z2, if_pos z3, e4, Option.bind_some]; exact Ev.now _), s4⟩
 exact ⟨_, _, _, _, _, _, start _ (by simp only [if_neg z0, if_neg z1, if_neg z2, if_neg z3]; exact Ev.now _), s3⟩
theorem twoLat_ev {l0 : List Int} (hbytes : ∀ x ∈ l0, (Lit.int .u8 x).wf = true) (hl : l0.length ≤ 4096) : ∃ p u m d u' m' d', Ev (fun k => spec_l03Two.f k l0) (p, u, m, d, u', m', d') := by
 obtain ⟨h0, e0, s0⟩ := from_ev hbytes (by omega)
 obtain ⟨p, u, m, d, c1, h1, e1, s1⟩ := spoilLat_ev (h := h0) s0
 have start : ∀ z, Ev (fun k => if decide (IsP p ∧ Lat p u m d) = true then ((spec_l03Draw.f k l0 c1 h1 p).bind fun b => ((spec_l01Next.f l0 b.2.2.2.1 b.2.2.2.2 2).bind fun b2 => (if b2.1 = 0 then ((spec_l01Next.f l0 b2.2.1 b2.2.2 2).bind fun b3 => ((spec_LatticesInside.f k p u m d (wrap64 (1 + b3.1))).bind fun b4 => (if b4.2 = 0 then ((spec_l01Next.f l0 b3.2.1 b3.2.2 (b4.1.length : Int)).bind fun b5 => (if 0 ≤ b5.1 then (if b5.1 < (b4.1.length : Int) then (some (p, u, m, d, (rd_T27 b4.1 b5.1).f0, (rd_T27 b4.1 b5.1).f1, (rd_T27 b4.1 b5.1).f2)) else (none)) else (none))) else (some (p, u, m, d, b.1, b.2.1, b.2.2.1))))) else (some (p, u, m, d, b.1, b.2.1, b.2.2.1))))) else (some (p, u, m, d, u, m, d))) z → Ev (fun k => spec_l03Two.f k l0) z := by
  intro z hz
  unfold spec_l03Two.f
  rw [bnd e0, bnd e1, bnd l03Is_ev]
  exact hz
 by_cases hl3 : IsP p ∧ Lat p u m d
 ·obtain ⟨u', m', d', c2, h2, e2, s2⟩ := drawLat_ev (h := h1) hl3.1 s1
  obtain ⟨x, c3, h3, e3, r3, s3⟩ := next_eq (h := h2) s2 (show (1 : Int) ≤ 2 by omega)
  by_cases z0 : x = 0
  ·obtain ⟨y, c4, h4, e4, r4, s4⟩ := next_eq (h := h3) s3 (show (1 : Int) ≤ 2 by omega)
   by_cases z1 : (InsR p u m d (wrap64 (1 + y))).2 = 0
   ·have hlen : 1 ≤ (InsR p u m d (wrap64 (1 + y))).1.length := InsR_one z1
    have hlen2 := InsR_length p u m d (wrap64 (1 + y))
    obtain ⟨i, c5, h5, e5, r5, s5⟩ := next_eq (h := h4) s4 (show (1 : Int) ≤ ((InsR p u m d (wrap64 (1 + y))).1.length : Int) by omega)
    refine ⟨?_, ?_, ?_, ?_, ?_, ?_, ?_, start _ ?_⟩
    rotate_left 7
    simp only [decide_eq_true hl3, if_true]
    rw [bnd e2]
    simp only [e3, Option.bind_some, if_pos z0, e4]
    rw [bnd specInside_ev]
    simp only [if_pos z1, e5, Option.bind_some, if_pos r5.1, if_pos r5.2]
    exact Ev.now _
   ·refine ⟨?_, ?_, ?_, ?_, ?_, ?_, ?_, start _ ?_⟩
    rotate_left 7
    simp only [decide_eq_true hl3, if_true]
    rw [bnd e2]
    simp only [e3, Option.bind_some, if_pos z0, e4]
    rw [bnd specInside_ev]
    simp only [if_neg z1]
    exact Ev.now _
  ·refine ⟨?_, ?_, ?_, ?_, ?_, ?_, ?_, start _ ?_⟩
   rotate_left 7
   simp only [decide_eq_true hl3, if_true]
   rw [bnd e2]
   simp only [e3, Option.bind_some, if_neg z0]
   exact Ev.now _
 ·exact ⟨_, _, _, _, _, _, _, start _ (by simp only [decide_eq_false hl3, if_neg Bool.false_ne_true]; exact Ev.now _)⟩
theorem drawOne_ev {l0 : List Int} (hbytes : ∀ x ∈ l0, (Lit.int .u8 x).wf = true) (hl : l0.length ≤ 4096) : ∃ p u m d u' m' d', Ev (fun k => spec_DrawAreOneClass.f k l0) (p, u, m, d, u', m', d') := by
 have hb7 : ∀ x ∈ (7 :: l0), (Lit.int .u8 x).wf = true := by
  intro x hx
  rcases List.mem_cons.1 hx with rfl | hx
  ·decide
  ·exact hbytes x hx
 obtain ⟨h0, e0, s0⟩ := from_ev hb7 (by rw [List.length_cons]; omega)
 obtain ⟨p, u, m, d, u', m', d', e1⟩ := twoLat_ev hbytes hl
 obtain ⟨x, c2, h2, e2, r2, s2⟩ := next_eq (h := h0) s0 (show (1 : Int) ≤ 2 by omega)
 have hj : ∀ b : Bool, ∃ v v2 v3, Ev (fun k => spec_DrawAreOneClass.j0 k p b u m d u' m' d') (p, u, m, d, v, v2, v3) := by
  intro b
  cases b
  ·exact ⟨_, _, _, Ev.step (fun k => by rw [spec_DrawAreOneClass.j0]) (by simp only [if_neg Bool.false_ne_true]; exact Ev.now _)⟩
  ·exact ⟨_, _, _, Ev.step (fun k => by rw [spec_DrawAreOneClass.j0]) (by simp only [if_true]; exact Ev.now _)⟩
 have start : ∀ b : Bool, (∀ z, Ev (fun k => spec_DrawAreOneClass.j0 k p b u m d u' m' d') z → Ev (fun k => spec_DrawAreOneClass.f k l0) z) → ∃ p u m d u' m' d', Ev (fun k => spec_DrawAreOneClass.f k l0) (p, u, m, d, u', m', d') := by
  intro b hb
  obtain ⟨v1, v2, v3, hv⟩ := hj b
  exact ⟨_, _, _, _, _, _, _, hb _ hv⟩
 have first : ∀ z, Ev (fun k => if x = 0 then (if decide (IsP p ∧ Lat p u m d) = true then (if u < 12 then (spec_DrawAreOneClass.j0 k p (decide (d < 12)) u m d u' m' d') else (spec_DrawAreOneClass.j0 k p false u m d u' m' d')) else (spec_DrawAreOneClass.j0 k p false u m d u' m' d')) else (spec_DrawAreOneClass.j0 k p false u m d u' m' d')) z → Ev (fun k => spec_DrawAreOneClass.f k l0) z := by
  intro z hz
  unfold spec_DrawAreOneClass.f
  simp only [if_pos (lt_big (n := 1 + l0.length) (by omega))]
  rw [bnd e0, bnd e1]
  simp only [e2, Option.bind_some]
  by_cases z0 : x = 0
  ·simp only [if_pos z0] at hz ⊢
   rw [bnd l03Is_ev]
   exact hz
  ·simp only [if_neg z0] at hz ⊢
   exact hz
 by_cases z0 : x = 0
 ·by_cases z1 : IsP p ∧ Lat p u m d
  ·by_cases z2 : u < 12
   ·exact start (decide (d < 12)) fun z hz => first z (by simp only [if_pos z0, decide_eq_true z1, if_true, if_pos z2]; exact hz)
   ·exact start false fun z hz => first z (by simp only [if_pos z0, decide_eq_true z1, if_true, if_neg z2]; exact hz)
  ·exact start false fun z hz => first z (by simp only [if_pos z0, decide_eq_false z1, if_neg Bool.false_ne_true]; exact hz)
 ·exact start false fun z hz => first z (by simp only [if_neg z0]; exact hz)
theorem vector_j1 {l : List Int} {c h p u m d : Int} (hs : Src l c) : ∃ x y, Ev (fun k => spec_DrawHoldsVector.j1 k p l c h u m d) (p, u, m, d, x, y) := by
 obtain ⟨x1, c1, h1, e1, r1, s1⟩ := next_eq (h := h) hs (show (1 : Int) ≤ 30 by omega)
 obtain ⟨x2, c2, h2, e2, r2, s2⟩ := next_eq (h := h1) s1 (show (1 : Int) ≤ 2000001 by omega)
 obtain ⟨x3, c3, h3, e3, r3, s3⟩ := pick_eq (h := h2) (xs := [wrap64 (x1 - 15), wrap64 (x2 - 1000000), 1000001]) s2 (by simp) (by simp)
 obtain ⟨x4, c4, h4, e4, r4, s4⟩ := next_eq (h := h3) s3 (show (1 : Int) ≤ 30 by omega)
 obtain ⟨x5, c5, h5, e5, r5, s5⟩ := next_eq (h := h4) s4 (show (1 : Int) ≤ 2000001 by omega)
 obtain ⟨x6, c6, h6, e6, r6, s6⟩ := pick_eq (h := h5) (xs := [0, wrap64 (x4 - 15), wrap64 (x5 - 1000000)]) s5 (by simp) (by simp)
 refine ⟨x3, x6, Ev.step (fun k => by rw [spec_DrawHoldsVector.j1]) ?_⟩
 simp only [e1, e2, e3, e4, e5, e6, Option.bind_some]
 exact Ev.now _
theorem drawVector_ev {l0 : List Int} (hbytes : ∀ x ∈ l0, (Lit.int .u8 x).wf = true) (hl : l0.length ≤ 4096) : ∃ p u m d x y, Ev (fun k => spec_DrawHoldsVector.f k l0) (p, u, m, d, x, y) := by
 obtain ⟨h0, e0, s0⟩ := from_ev hbytes (by omega)
 obtain ⟨p, u, m, d, c1, h1, e1, s1⟩ := spoilLat_ev (h := h0) s0
 have start : ∀ z, Ev (fun k => if decide (IsP p ∧ Lat p u m d) = true then ((spec_l01Next.f l0 c1 h1 2).bind fun b => (spec_DrawHoldsVector.j0 k p (b.1 == 0) l0 b.2.1 b.2.2 u m d)) else (spec_DrawHoldsVector.j0 k p false l0 c1 h1 u m d)) z → Ev (fun k => spec_DrawHoldsVector.f k l0) z := by
  intro z hz
  unfold spec_DrawHoldsVector.f
  rw [bnd e0, bnd e1, bnd l03Is_ev]
  exact hz
 by_cases hl3 : IsP p ∧ Lat p u m d
 ·obtain ⟨x, c2, h2, e2, r2, s2⟩ := next_eq (h := h1) s1 (show (1 : Int) ≤ 2 by omega)
  by_cases z0 : x = 0
  ·obtain ⟨y, c3, h3, e3, r3, s3⟩ := next_eq (h := h2) s2 (show (1 : Int) ≤ 5 by omega)
   obtain ⟨z, c4, h4, e4, r4, s4⟩ := next_eq (h := h3) s3 (show (1 : Int) ≤ 5 by omega)
   have hlat := hl3.2
   unfold Lat at hlat
   have w1 := l01Power_ev hl3.1 (n := u) (by omega)
   have w2 := l01Power_ev hl3.1 (n := d) (by omega)
   obtain ⟨a, b, hj⟩ := vector_j1 (p := p) (u := u) (m := m) (d := d) (h := h4) s4
   have hb : (x == 0) = true := by simp [z0]
   have go : ∀ w, Ev (fun k => if (mx (mx (mx (wrap64 ((wrap64 ((wrap64 (y - 2)) * p ^ u.toNat)) + (wrap64 ((wrap64 (z - 2)) * m)))) (wrap64 (-(wrap64 ((wrap64 ((wrap64 (y - 2)) * p ^ u.toNat)) + (wrap64 ((wrap64 (z - 2)) * m))))))) (wrap64 ((wrap64 (z - 2)) * p ^ d.toNat))) (wrap64 (-(wrap64 ((wrap64 (z - 2)) * p ^ d.toNat))))) ≤ 1000000 then (some (p, u, m, d, wrap64 ((wrap64 ((wrap64 (y - 2)) * p ^ u.toNat)) + (wrap64 ((wrap64 (z - 2)) * m))), wrap64 ((wrap64 (z - 2)) * p ^ d.toNat))) else (spec_DrawHoldsVector.j1 k p l0 c4 h4 u m d)) w → Ev (fun k => spec_DrawHoldsVector.f k l0) w := by
    intro w hw
    refine start _ ?_
    simp only [decide_eq_true hl3, if_true, e2, Option.bind_some, hb]
    refine Ev.step (fun k => by rw [spec_DrawHoldsVector.j0]) ?_
    simp only [if_true, e3, e4, Option.bind_some]
    rw [bnd w1, bnd w2]
    exact hw
   by_cases z1 : (mx (mx (mx (wrap64 ((wrap64 ((wrap64 (y - 2)) * p ^ u.toNat)) + (wrap64 ((wrap64 (z - 2)) * m)))) (wrap64 (-(wrap64 ((wrap64 ((wrap64 (y - 2)) * p ^ u.toNat)) + (wrap64 ((wrap64 (z - 2)) * m))))))) (wrap64 ((wrap64 (z - 2)) * p ^ d.toNat))) (wrap64 (-(wrap64 ((wrap64 (z - 2)) * p ^ d.toNat))))) ≤ 1000000
   ·exact ⟨_, _, _, _, _, _, go _ (by simp only [if_pos z1]; exact Ev.now _)⟩
   ·exact ⟨_, _, _, _, _, _, go _ (by simp only [if_neg z1]; exact hj)⟩
  ·obtain ⟨a, b, hj⟩ := vector_j1 (p := p) (u := u) (m := m) (d := d) (h := h2) s2
   have hb : (x == 0) = false := by simp [z0]
   refine ⟨?_, ?_, ?_, ?_, ?_, ?_, start _ ?_⟩
   rotate_left 6
   simp only [decide_eq_true hl3, if_true, e2, Option.bind_some, hb]
   refine Ev.step (fun k => by rw [spec_DrawHoldsVector.j0]) ?_
   simp only [if_neg Bool.false_ne_true]
   exact hj
 ·obtain ⟨a, b, hj⟩ := vector_j1 (p := p) (u := u) (m := m) (d := d) (h := h1) s1
  refine ⟨?_, ?_, ?_, ?_, ?_, ?_, start _ ?_⟩
  rotate_left 6
  simp only [decide_eq_false hl3, if_neg Bool.false_ne_true]
  refine Ev.step (fun k => by rw [spec_DrawHoldsVector.j0]) ?_
  simp only [if_neg Bool.false_ne_true]
  exact hj
theorem columns_l0 {l : List Int} {p : Int} (hp : 0 ≤ mx p 2 ∧ mx p 2 ≤ 7) : ∀ (n : Nat) (i : Nat) (xs : List Int) (c h : Int), i + n = 4 → xs.length = 4 → Src l c → ∃ a b c' d, Ev (fun k => spec_DrawLatticeOf.l0 k p xs i l c h) (p, a, b, c', d) := by
 intro n
 induction n with
 | zero =>
  intro i xs c h hi hx hs
  have l0 : (0 : Int) < (xs.length : Int) := by omega
  have l1 : (1 : Int) < (xs.length : Int) := by omega
  have l2 : (2 : Int) < (xs.length : Int) := by omega
  have l3 : (3 : Int) < (xs.length : Int) := by omega
  have hi4 : ¬ (i : Int) < 4 := by omega
  obtain ⟨x1, c1, h1, e1, r1, s1⟩ := next_eq (h := h) hs (show (1 : Int) ≤ 30 by omega)
  by_cases z0 : x1 = 0
  ·obtain ⟨x2, c2, h2, e2, r2, s2⟩ := next_eq (h := h1) s1 (show (1 : Int) ≤ 4 by omega)
   obtain ⟨x3, c3, h3, e3, r3, s3⟩ := pick_eq (h := h2) (xs := [1000001, (-1000001)]) s2 (by simp) (by simp)
   have l4 : x2 < (xs.length : Int) := by omega
   refine ⟨?_, ?_, ?_, ?_, Ev.step (fun k => by rw [spec_DrawLatticeOf.l0]) ?_⟩
   rotate_left 4
   simp only [if_neg hi4, e1, Option.bind_some, if_pos z0, e2, e3, if_pos r2.1, if_pos l4, if_pos l0, if_pos l1, if_pos l2, if_pos l3]
   exact Ev.now _
  by_cases z1 : x1 = 1
  ·refine ⟨?_, ?_, ?_, ?_, Ev.step (fun k => by rw [spec_DrawLatticeOf.l0]) ?_⟩
   rotate_left 4
   simp only [if_neg hi4, e1, Option.bind_some, if_neg z0, if_pos z1, if_pos l0, if_pos l1, if_pos l2, if_pos l3]
   exact Ev.now _
  ·refine ⟨?_, ?_, ?_, ?_, Ev.step (fun k => by rw [spec_DrawLatticeOf.l0]) ?_⟩
   rotate_left 4
   simp only [if_neg hi4, e1, Option.bind_some, if_neg z0, if_neg z1, if_pos l0, if_pos l1, if_pos l2, if_pos l3]
   exact Ev.now _
 | succ n ih =>
  intro i xs c h hi hx hs
  have hi4 : (i : Int) < 4 := by omega
  have hix : (i : Int) < (xs.length : Int) := by omega
  obtain ⟨x1, c1, h1, e1, r1, s1⟩ := next_eq (h := h) hs (show (1 : Int) ≤ 20 by omega)
  obtain ⟨x2, c2, h2, e2, r2, s2⟩ := next_eq (h := h1) s1 (show (1 : Int) ≤ 5 by omega)
  obtain ⟨q, eq, q0, q1⟩ := powAny_ev hp (show 0 ≤ x2 ∧ x2 ≤ 6 by omega)
  obtain ⟨x3, c3, h3, e3, r3, s3⟩ := next_eq (h := h2) s2 (show (1 : Int) ≤ 9 by omega)
  obtain ⟨x4, c4, h4, e4, r4, s4⟩ := next_eq (h := h3) s3 (show (1 : Int) ≤ 2000001 by omega)
  obtain ⟨x5, c5, h5, e5, r5, s5⟩ := pick_eq (h := h4) (xs := [wrap64 (x1 - 10), wrap64 (q * (wrap64 (x3 - 4))), wrap64 (x4 - 1000000), 0]) s4 (by simp) (by simp)
  obtain ⟨a, b, c', d, hh⟩ := ih (i + 1) (xs.set i x5) c5 h5 (by omega) (by rw [List.length_set]; exact hx) s5
  refine ⟨a, b, c', d, Ev.step (fun k => by rw [spec_DrawLatticeOf.l0]) ?_⟩
  simp only [if_pos hi4, e1, e2, Option.bind_some]
  rw [bnd eq]
  simp only [e3, e4, e5, Option.bind_some, if_pos (show (0 : Int) ≤ (i : Int) by omega), if_pos hix]
  rw [wrap_id (x := (i : Int) + 1) (by omega) (by omega)]
  exact hh
theorem drawColumns_ev {l0 : List Int} (hbytes : ∀ x ∈ l0, (Lit.int .u8 x).wf = true) (hl : l0.length ≤ 4096) : ∃ p a b c d, Ev (fun k => spec_DrawLatticeOf.f k l0) (p, a, b, c, d) := by
 obtain ⟨h0, e0, s0⟩ := from_ev hbytes (by omega)
 obtain ⟨p, c1, h1, e1, r1, s1⟩ := pick_eq (h := h0) (xs := [2, 3, 5, 7, 2, 3, 4]) s0 (by simp) (by simp)
 simp only [List.mem_cons, List.not_mem_nil, or_false] at r1
 obtain ⟨a, b, c, d, hh⟩ := columns_l0 (p := p) (by unfold mx; split <;> omega) 4 0 [0, 0, 0, 0] c1 h1 (by omega) rfl s1
 refine ⟨p, a, b, c, d, ?_⟩
 unfold spec_DrawLatticeOf.f
 rw [bnd e0]
 simp only [e1, Option.bind_some]
 exact hh
theorem one_val {p : Int} (hp : IsP p) : vl p 1 = 0 := vl_of_not (fun h => by
 have h1 := hp.two_le
 have := Int.le_of_dvd (by omega) h
 omega)
theorem hv_of {p x y x' y' det : Int} {r : Int × Int × Int × Int} (hp : IsP p) (hy : y ≠ 0) (hy' : p ^ vl p y ∣ y') (hdet : det ≠ 0) (e : p ^ vl p det ∣ x * y' - x' * y) (hle : vl p y ≤ vl p det)
  (h : LatOfIs p x y det r) (hz : r.2.2.2 = 0) : Lat p r.1 r.2.1 r.2.2.1 ∧ hasV p r.1 r.2.1 r.2.2.1 x y = true ∧ hasV p r.1 r.2.1 r.2.2.1 x' y' = true ∧ r.1 + r.2.2.1 = vl p det := by
 rcases h with ⟨_, rfl⟩ | ⟨hn, mix, m0, m1, hd, rfl⟩
 ·exact absurd hz (by simp)
 ·obtain ⟨uy, huy, huyd, _⟩ := vl_split hp y hy
  obtain ⟨w, hw⟩ := hy'
  generalize hv : vl p y = v at *
  generalize hV : vl p det = V at *
  have hpow : p ^ v * p ^ (V - v) = p ^ V := by rw [← Int.pow_add]; congr 1; omega
  have q1 : p ^ (V - v) ∣ uy * mix - x := by
   refine dvd_cancel (pow_ne' hp v) ?_
   rw [hpow]
   have : p ^ v * (uy * mix - x) = mix * y - x * p ^ v := by
    conv => rhs; rw [huy]
    rw [Int.mul_sub, Int.mul_comm x, Int.mul_comm mix, Int.mul_assoc]
   rw [this]; exact hd
  have q2 : p ^ (V - v) ∣ w * mix - x' := by
   refine not_dvd_pow_mul hp huyd ?_
   have k1 : p ^ (V - v) ∣ x * w - x' * uy := by
    refine dvd_cancel (pow_ne' hp v) ?_
    rw [hpow]
    have : p ^ v * (x * w - x' * uy) = x * y' - x' * y := by
     rw [hw]
     conv => rhs; arg 2; rw [huy]
     rw [Int.mul_sub, Int.mul_left_comm, Int.mul_left_comm (p ^ v) x']
    rw [this]; exact e
   have k2 := Int.dvd_add (Int.dvd_trans q1 (Int.dvd_mul_left w _)) k1
   have : w * (uy * mix - x) + (x * w - x' * uy) = (w * mix - x') * uy := by
    rw [Int.mul_sub, Int.sub_mul, Int.mul_comm x w, Int.mul_assoc w mix, Int.mul_comm mix uy]; omega
   rwa [this] at k2
  have e1 : ((V - v : Nat) : Int).toNat = V - v := Int.toNat_natCast _
  have e2 : ((v : Nat) : Int).toNat = v := Int.toNat_natCast _
  have hpv := pow_pos' hp v
  have d1 : y / p ^ v = uy := by rw [huy]; exact Int.mul_ediv_cancel_left _ (Int.ne_of_gt hpv)
  have d2 : y' / p ^ v = w := by rw [hw]; exact Int.mul_ediv_cancel_left _ (Int.ne_of_gt hpv)
  have r1 : y % p ^ v = 0 := by rw [huy]; exact Int.mul_emod_right _ _
  have r2 : y' % p ^ v = 0 := by rw [hw]; exact Int.mul_emod_right _ _
  dsimp only
  refine ⟨⟨by omega, by omega, by omega, by omega, m0, by rw [e1]; exact m1⟩, ?_, ?_, by omega⟩
  ·unfold hasV
   rw [e1, e2, d1, r1, emod_eq_of_dvd q1]
   simp
  ·unfold hasV
   rw [e1, e2, d2, r2, emod_eq_of_dvd q2]
   simp
theorem latticeOf_law {p a b c d : Int} {r r' : Int × Int × Int × Int} (h : LatticeOfIs p a b c d r) (h' : LatticeOfIs p b a d c r') (hz : r.2.2.2 = 0) :
  r' = r ∧ IsP p ∧ ((-1000000 ≤ a ∧ a ≤ 1000000) ∧ (-1000000 ≤ b ∧ b ≤ 1000000) ∧ (-1000000 ≤ c ∧ c ≤ 1000000) ∧ -1000000 ≤ d ∧ d ≤ 1000000) ∧ a * d - b * c ≠ 0 ∧
  Lat p r.1 r.2.1 r.2.2.1 ∧ hasV p r.1 r.2.1 r.2.2.1 a c = true ∧ hasV p r.1 r.2.1 r.2.2.1 b d = true ∧ r.1 + r.2.2.1 = vl p (a * d - b * c) := by
 rcases h with ⟨_, rfl⟩ | ⟨_, _, rfl⟩ | ⟨_, _, _, rfl⟩ | ⟨hp, hr, hdet, hh⟩
 ·exact absurd hz (by simp)
 ·exact absurd hz (by simp)
 ·exact absurd hz (by simp)
 have hdd : p ^ vl p (a * d - b * c) ∣ a * d - b * c := pow_vl_dvd hp hdet
 have hneg : b * c - a * d = -(a * d - b * c) := by omega
 have hdd' : p ^ vl p (a * d - b * c) ∣ b * c - a * d := by rw [hneg]; exact Int.dvd_neg.2 hdd
 have hsame : r' = r := by
  rcases h' with ⟨hn, _⟩ | ⟨_, hn, _⟩ | ⟨_, _, hn, _⟩ | ⟨_, _, _, hh'⟩
  ·exact absurd hp hn
  ·exact absurd ⟨hr.2.1, hr.1, hr.2.2.2, hr.2.2.1⟩ hn
  ·exact absurd hn (by omega)
  ·rw [hneg] at hh'
   rcases hh with ⟨hd, hdc, hl⟩ | ⟨hc, hcd, hl⟩ <;> rcases hh' with ⟨hc', hcd', hl'⟩ | ⟨hd', hdc', hl'⟩
   ·have hv : vl p c = vl p d := by
     have k1 := (pow_dvd_iff hp hc' _).1 hdc
     have k2 := (pow_dvd_iff hp hd _).1 hcd'
     omega
    exact LatOfIs.uniq hp hc' hd hv hdet (LatOfIs.det_neg hp hdet hl') hl
   ·exact LatOfIs.same (LatOfIs.det_neg hp hdet hl') hl hp hd
   ·exact LatOfIs.same (LatOfIs.det_neg hp hdet hl') hl hp hc
   ·have hv : vl p c = vl p d := by
     have k1 := (pow_dvd_iff hp hc _).1 hdc'
     have k2 := (pow_dvd_iff hp hd' _).1 hcd
     omega
    exact (LatOfIs.uniq hp hc hd' hv hdet hl (LatOfIs.det_neg hp hdet hl')).symm
 refine ⟨hsame, hp, hr, hdet, ?_⟩
 rcases hh with ⟨hd, hdc, hl⟩ | ⟨hc, hcd, hl⟩
 ·have hle : vl p d ≤ vl p (a * d - b * c) := (pow_dvd_iff hp hdet _).1 (Int.dvd_sub (Int.dvd_trans (pow_vl_dvd hp hd) (Int.dvd_mul_left _ _)) (Int.dvd_trans hdc (Int.dvd_mul_left _ _)))
  obtain ⟨q1, q2, q3, q4⟩ := hv_of (x' := a) hp hd hdc hdet hdd' hle hl hz
  exact ⟨q1, q3, q2, q4⟩
 ·have hle : vl p c ≤ vl p (a * d - b * c) := (pow_dvd_iff hp hdet _).1 (Int.dvd_sub (Int.dvd_trans hcd (Int.dvd_mul_left _ _)) (Int.dvd_trans (pow_vl_dvd hp hc) (Int.dvd_mul_left _ _)))
  obtain ⟨q1, q2, q3, q4⟩ := hv_of (x' := b) hp hc hcd hdet hdd hle hl hz
  exact ⟨q1, q2, q3, q4⟩
theorem ballOfLattice_impl (p u m d : Int) : ∃ r, Ev (fun k => impl_BallOfLattice.f k p u m d) r ∧
  ((¬ (IsP p ∧ Lat p u m d) ∧ r = (0, 0, 0, 1)) ∨ (IsP p ∧ Lat p u m d ∧ ∃ q, AtIs p m (p ^ d.toNat) (u - d) q ∧ r = fitR q)) := by
 unfold impl_BallOfLattice.f
 by_cases h : IsP p ∧ Lat p u m d
 ·have hs := h.2.small h.1
  have hr : 0 ≤ u ∧ u ≤ 12 ∧ 0 ≤ d ∧ d ≤ 12 := by have := h.2; unfold Lat at this; omega
  have h0 := pow_pos' h.1 d.toNat
  have h1 := pow_le_22 h.1 (n := d.toNat) (by omega)
  obtain ⟨r, _, hr2, hi⟩ := at_both (num := m) (den := p ^ d.toNat) (level := u - d) h.1 (Int.ne_of_gt h0) (by omega) (by omega)
  have e : wrap64 (u - d) = u - d := wrap_id (by omega) (by omega)
  refine ⟨fitR r, ?_, .inr ⟨h.1, h.2, r, hi, rfl⟩⟩
  rw [bnd IsLattice_ev]
  simp only [h, and_self, decide_true, if_true, e]
  rw [bnd (power_ev h.1 (by omega)), bnd hr2]
  simp only [fitted_eq, Option.bind_some]
  exact Ev.now _
 ·refine ⟨(0, 0, 0, 1), ?_, .inl ⟨h, rfl⟩⟩
  rw [bnd IsLattice_ev]
  simp only [h, decide_false, if_neg Bool.false_ne_true]; exact Ev.now _
theorem prim_facts {p u m d : Int} (hp : IsP p) (h : Lat p u m d) : Lat p (PrimR p u m d).1 (PrimR p u m d).2.1 (PrimR p u m d).2.2.1 ∧ pk p (PrimR p u m d).1 (PrimR p u m d).2.1 (PrimR p u m d).2.2.1 = 0 := by
 obtain ⟨k0, k1, k2, m0, hm0⟩ := pk_facts hp h
 have hpos := pow_pos' hp (pk p u m d).toNat
 have hq : m / p ^ (pk p u m d).toNat = m0 := Int.ediv_eq_of_eq_mul_right (Int.ne_of_gt hpos) hm0
 unfold PrimR
 dsimp only
 rw [hq]
 obtain ⟨u0, u1, d0, d1, mm0, mm1⟩ := h
 have hm0' : 0 ≤ m0 := by
  rcases Int.lt_or_le m0 0 with hneg | hge
  ·have := Int.mul_neg_of_pos_of_neg hpos hneg; omega
  ·exact hge
 have hlt : m0 < p ^ (u - pk p u m d).toNat := by
  have e : p ^ (pk p u m d).toNat * p ^ (u - pk p u m d).toNat = p ^ u.toNat := by rw [← Int.pow_add]; congr 1; omega
  have mm2 : p ^ (pk p u m d).toNat * m0 < p ^ (pk p u m d).toNat * p ^ (u - pk p u m d).toNat := by rw [e, ← hm0]; exact mm1
  exact Int.lt_of_mul_lt_mul_left mm2 (Int.le_of_lt hpos)
 refine ⟨⟨by omega, by omega, by omega, by omega, hm0', hlt⟩, ?_⟩
 by_cases hz : m = 0
 ·have hz0 : m0 = 0 := by
   rw [hz] at hm0
   rcases Int.mul_eq_zero.1 hm0.symm with h1 | h1
   ·exact absurd h1 (pow_ne' hp _)
   ·exact h1
  have e : pk p u m d = mn u d := by unfold pk; rw [if_pos hz]
  generalize hk : pk p u m d = k at *
  unfold pk
  rw [if_pos hz0]
  unfold mn at e ⊢
  split at e <;> split <;> omega
 ·have hz0 : m0 ≠ 0 := by rintro rfl; simp at hm0; exact hz hm0
  have e : pk p u m d = mn (mn u d) (vl p m) := by unfold pk; rw [if_neg hz]
  have ev : vl p m = (pk p u m d).toNat + vl p m0 := by
   conv => lhs; rw [hm0]
   exact vl_pow_mul hp hz0 _
  generalize hk : pk p u m d = k at *
  unfold pk
  rw [if_neg hz0]
  unfold mn at e ⊢
  split at e <;> split at e <;> split <;> split <;> omega
theorem prim_again {p u m d : Int} (h : pk p u m d = 0) : PrimR p u m d = (u, m, d, 0) := by
 unfold PrimR
 rw [h]
 simp
theorem one_law {p u m d : Int} (hp : IsP p) (h : Lat p u m d) : OneR p u m d (PrimR p u m d).1 (PrimR p u m d).2.1 (PrimR p u m d).2.2.1 = (true, 0) := by
 obtain ⟨h1, h2⟩ := prim_facts hp h
 unfold OneR
 rw [if_pos ⟨hp, h, h1⟩, prim_again h2]
 simp
theorem at_prim {p u m d : Int} {q q' : Int × Int × Int × Bool} (hp : IsP p) (h : Lat p u m d) (hq : AtIs p m (p ^ d.toNat) (u - d) q)
  (hq' : AtIs p (PrimR p u m d).2.1 (p ^ (PrimR p u m d).2.2.1.toNat) ((PrimR p u m d).1 - (PrimR p u m d).2.2.1) q') : q' = q := by
 obtain ⟨k0, k1, k2, m0, hm0⟩ := pk_facts hp h
 have hpos := pow_pos' hp (pk p u m d).toNat
 have hqm : m / p ^ (pk p u m d).toNat = m0 := Int.ediv_eq_of_eq_mul_right (Int.ne_of_gt hpos) hm0
 obtain ⟨u0, u1, d0, d1, mm0, mm1⟩ := h
 unfold PrimR at hq'
 dsimp only at hq'
 rw [hqm, show u - pk p u m d - (d - pk p u m d) = u - d by omega] at hq'
 generalize hk : pk p u m d = k at *
 have hfit : (m = 0 ∨ vl p (p ^ d.toNat) ≤ vl p m + 6) ↔ (m0 = 0 ∨ vl p (p ^ (d - k).toNat) ≤ vl p m0 + 6) := by
  rw [vl_pow hp, vl_pow hp]
  by_cases hz0 : m0 = 0
  ·subst hz0; simp at hm0; simp [hm0]
  ·have hz : m ≠ 0 := by rw [hm0]; exact Int.mul_ne_zero (Int.ne_of_gt hpos) hz0
   have ev : vl p m = k.toNat + vl p m0 := by
    conv => lhs; rw [hm0]
    exact vl_pow_mul hp hz0 _
   simp only [hz, hz0, false_or]
   omega
 rcases hq with ⟨l0, l1, f, x, hx, rfl⟩ | ⟨hn, rfl⟩
 ·rcases hq' with ⟨_, _, f', x', hx', rfl⟩ | ⟨hn', _⟩
  ·rw [vl_pow hp] at hx hx'
   have e1 : p ^ ((u - d + 6).toNat + d.toNat) = p ^ k.toNat * p ^ ((u - d + 6).toNat + (d - k).toNat) := by rw [← Int.pow_add]; congr 1; omega
   have e2 : p ^ d.toNat = p ^ k.toNat * p ^ (d - k).toNat := by rw [← Int.pow_add]; congr 1; omega
   have k1 : p ^ ((u - d + 6).toNat + d.toNat) ∣ x' * p ^ d.toNat - m * p ^ 6 := by
    rw [e1]
    have : x' * p ^ d.toNat - m * p ^ 6 = p ^ k.toNat * (x' * p ^ (d - k).toNat - m0 * p ^ 6) := by
     conv => lhs; rw [hm0, e2]
     rw [Int.mul_sub, Int.mul_left_comm, Int.mul_assoc]
    rw [this]
    exact Int.mul_dvd_mul_left _ hx'
   have k2 := Int.dvd_sub k1 hx
   have k3 : p ^ (u - d + 6).toNat ∣ x' - x := by
    refine dvd_cancel (pow_ne' hp d.toNat) ?_
    rw [← Int.pow_add, Nat.add_comm]
    have : p ^ d.toNat * (x' - x) = x' * p ^ d.toNat - m * p ^ 6 - (x * p ^ d.toNat - m * p ^ 6) := by rw [Int.mul_sub, Int.mul_comm _ x', Int.mul_comm _ x]; omega
    rw [this]; exact k2
   obtain ⟨e3, e4⟩ := ofM_congr (p := p) (l := u - d) (emod_eq_of_dvd k3)
   rw [e3, e4]
  ·exact absurd ⟨l0, l1, hfit.1 f⟩ hn'
 ·rcases hq' with ⟨l0, l1, f', _⟩ | ⟨_, rfl⟩
  ·exact absurd ⟨l0, l1, hfit.2 f'⟩ hn
  ·rfl
theorem lob_law {p u m d : Int} {q : Int × Int × Int × Bool} (hp : IsP p) (h : Lat p u m d) (hk : pk p u m d = 0) (hq : AtIs p m (p ^ d.toNat) (u - d) q) (hz : q.2.2.2 = true) :
  (-6 ≤ q.1 ∧ q.1 ≤ 6) ∧ (0 ≤ q.2.2.1 ∧ q.2.2.1 ≤ 6) ∧ LobR p q.1 q.2.1 q.2.2.1 = (u, m, d, 0) := by
 rcases hq with ⟨l0, l1, f, x, hx, rfl⟩ | ⟨_, rfl⟩
 ·have hb := ofM_bal hp l0 l1 x
  have hd6 := ofMd_le p (u - d) x
  refine ⟨⟨l0, l1⟩, ⟨by dsimp only; omega, by dsimp only; omega⟩, ?_⟩
  dsimp only
  unfold LobR
  rw [if_pos ⟨hp, hb⟩]
  obtain ⟨u0, u1, d0, d1, mm0, mm1⟩ := h
  rw [vl_pow hp] at hx
  by_cases hm : m = 0
  ·subst hm
   have hx0 : p ^ (u - d + 6).toNat ∣ x := by
    refine dvd_cancel (pow_ne' hp d.toNat) ?_
    rw [← Int.pow_add, Nat.add_comm, Int.mul_comm _ x]
    simpa using hx
   obtain ⟨e1, e2⟩ := ofM_zero_of_dvd hx0
   rw [e1, e2]
   have hmin : mn u d = 0 := by unfold pk at hk; rwa [if_pos rfl] at hk
   unfold mn at hmin
   unfold lobD
   simp only [Prod.mk.injEq, and_true, true_and]
   split at hmin <;> split <;> constructor <;> omega
  ·have hd' : d ≤ 6 := by
    rcases f with f | f
    ·exact absurd f hm
    ·rw [vl_pow hp] at f
     have : pk p u m d = mn (mn u d) (vl p m) := by unfold pk; rw [if_neg hm]
     rw [hk] at this
     unfold mn at this
     have hvl : vl p m < u.toNat := by
      refine vl_le_of_lt hp hm ?_
      have e1 : ((p.natAbs ^ u.toNat : Nat) : Int) = p ^ u.toNat := by
       rw [Int.natCast_pow, Int.natAbs_of_nonneg (Int.le_of_lt hp.pos)]
      omega
     split at this <;> split at this <;> omega
   have hu1 : 1 ≤ u := by
    rcases Int.lt_or_le u 1 with h1 | h1
    ·have : u.toNat = 0 := by omega
     rw [this, Int.pow_zero] at mm1
     omega
    ·exact h1
   have hbal : Bal p (u - d) m d := by
    rw [Bal_high (by omega)]
    refine ⟨l0, l1, d0, hd', mm0, by rw [show u - d + d = u by omega]; exact mm1, ?_⟩
    by_cases hdz : d = 0
    ·exact .inl hdz
    ·right
     intro hpm
     have hv1 := (dvd_iff_vl hp hm).1 hpm
     have : pk p u m d = mn (mn u d) (vl p m) := by unfold pk; rw [if_neg hm]
     rw [hk] at this
     unfold mn at this
     split at this <;> split at this <;> omega
   have hxm : p ^ (u - d + 6).toNat ∣ x - mk p m d := by
    refine dvd_cancel (pow_ne' hp d.toNat) ?_
    rw [← Int.pow_add, Nat.add_comm]
    have e6 : p ^ (6 - d).toNat * p ^ d.toNat = p ^ 6 := by rw [← Int.pow_add]; congr 1; omega
    have : p ^ d.toNat * (x - mk p m d) = x * p ^ d.toNat - m * p ^ 6 := by
     unfold mk
     rw [Int.mul_sub, Int.mul_comm _ x, Int.mul_comm _ (m * _), Int.mul_assoc, e6]
    rw [this]; exact hx
   obtain ⟨e3, e4⟩ := ofM_congr (p := p) (l := u - d) (emod_eq_of_dvd hxm)
   obtain ⟨b1, b2⟩ := Bal.back hp hbal
   have hd2 : (ofMd p (u - d) x : Int) = d := by rw [e4]; exact b2
   rw [hd2, e3, b1]
   unfold lobD
   rw [if_neg (by omega)]
   simp
 ·exact absurd hz (by simp)
theorem lat_j4 {l0 : List Int} (hbytes : ∀ x ∈ l0, (Lit.int .u8 x).wf = true) (hl : l0.length ≤ 4096) : Ev (fun k => laws_FnLattices.j4 k l0) true := by
 obtain ⟨h0, e0, s0⟩ := from_ev hbytes (by omega)
 obtain ⟨p, lv, t, d, c1, h1, e1, hp, hb, s1⟩ := spoil_ev (h := h0) s0
 have hdraw : Ev (fun k => spec_DrawLatticeOfBall.f k l0) (p, lv, t, d) := by
  unfold spec_DrawLatticeOfBall.f
  rw [bnd e0, bnd e1]; exact Ev.now _
 obtain ⟨q, u, m, d2, u', m', d2', hone⟩ := drawOne_ev hbytes hl
 obtain ⟨v, u2, m2, d3, x, y, hvec⟩ := drawVector_ev hbytes hl
 unfold SmB Sm at hb
 refine Ev.step (fun k => by rw [laws_FnLattices.j4]) ?_
 rw [bnd hdraw]
 dsimp only
 rw [bnd (implLatticeOfBall_ev (by omega) (by omega)), bnd (specLatticeOfBall_ev (by omega) (by omega)), bnd hone]
 dsimp only
 rw [bnd implAreOneClass_ev, bnd specAreOneClass_ev, bnd hvec]
 dsimp only
 rw [bnd implHoldsVector_ev, bnd specHoldsVector_ev]
 simp only [if_true, beq_self_eq_true, Bool.and_self]
 exact Ev.now _
theorem lat_j2 {l0 : List Int} {p u m d : Int} (h4 : Ev (fun k => laws_FnLattices.j4 k l0) true) :
  Ev (fun k => laws_FnLattices.j2 k l0 p (PrimOfR p u m d).2.2.2.2 false u m d (PrimOfR p u m d).1 (PrimOfR p u m d).2.1 (PrimOfR p u m d).2.2.1) true := by
 refine Ev.step (fun k => by rw [laws_FnLattices.j2]) ?_
 simp only [if_neg Bool.false_ne_true]
 by_cases h : IsP p ∧ Lat p u m d
 ·have e : PrimOfR p u m d = ((PrimR p u m d).1, (PrimR p u m d).2.1, (PrimR p u m d).2.2.1, (PrimR p u m d).2.2.2, 0) := by unfold PrimOfR; rw [if_pos h]
  obtain ⟨hp, hl⟩ := h
  obtain ⟨f1, f2⟩ := prim_facts hp hl
  rw [e]
  simp only [if_true]
  rw [bnd implAreOneClass_ev, one_law hp hl]
  obtain ⟨r, g1, g2⟩ := ballOfLattice_impl p u m d
  obtain ⟨r', g1', g2'⟩ := ballOfLattice_impl p (PrimR p u m d).1 (PrimR p u m d).2.1 (PrimR p u m d).2.2.1
  rw [bnd g1, bnd g1']
  rcases g2 with ⟨hn, _⟩ | ⟨_, _, q, hq, rfl⟩
  ·exact absurd ⟨hp, hl⟩ hn
  rcases g2' with ⟨hn, _⟩ | ⟨_, _, q', hq', rfl⟩
  ·exact absurd ⟨hp, f1⟩ hn
  have eq := at_prim hp hl hq hq'
  subst eq
  simp only [if_true, beq_self_eq_true, Bool.not_true, Bool.or_self]
  refine Ev.step (fun k => by rw [laws_FnLattices.j3]) ?_
  simp only [if_neg Bool.false_ne_true]
  by_cases hz : (fitR q').2.2.2 = 0
  ·have hz' : q'.2.2.2 = true := by
    unfold fitR at hz
    by_cases h2 : q'.2.2.2 = true
    ·exact h2
    ·rw [if_neg h2] at hz; exact absurd hz (by simp)
   have ef : fitR q' = (q'.1, q'.2.1, q'.2.2.1, 0) := by unfold fitR; rw [if_pos hz']
   obtain ⟨l1, l2, l3⟩ := lob_law hp f1 f2 hq' hz'
   simp only [ef, if_true]
   rw [bnd (implLatticeOfBall_ev (by omega) (by omega)), l3]
   simp only [if_true, beq_self_eq_true, Bool.not_true, Bool.or_self, if_neg Bool.false_ne_true]
   exact h4
  ·simp only [if_neg hz]
   exact h4
 ·have e : PrimOfR p u m d = (0, 0, 0, 0, 1) := by unfold PrimOfR; rw [if_neg h]
  rw [e]
  simp only [if_neg (show ¬ (1 : Int) = 0 by omega)]
  exact h4
theorem lat_j1 {l0 : List Int} (hbytes : ∀ x ∈ l0, (Lit.int .u8 x).wf = true) (hl : l0.length ≤ 4096) : Ev (fun k => laws_FnLattices.j1 k l0) true := by
 obtain ⟨h0, e0, s0⟩ := from_ev hbytes (by omega)
 obtain ⟨p, u, m, d, c1, h1, e1, s1⟩ := spoilLat_ev (h := h0) s0
 have hdraw : Ev (fun k => spec_DrawPrimitiveOf.f k l0) (p, u, m, d) := by
  unfold spec_DrawPrimitiveOf.f
  rw [bnd e0, bnd e1]; exact Ev.now _
 refine Ev.step (fun k => by rw [laws_FnLattices.j1]) ?_
 rw [bnd hdraw]
 dsimp only
 rw [bnd implPrimitiveOf_ev, bnd specPrimitiveOf_ev]
 simp only [if_true, beq_self_eq_true, Bool.not_true, Bool.or_self, if_neg Bool.false_ne_true]
 have hI : Ev (fun k => spec_IsLattice.f k p u m d) (decide (IsP p ∧ Lat p u m d)) := by
  unfold spec_IsLattice.f
  rw [bnd l03Is_ev]; exact Ev.now _
 rw [bnd IsLattice_ev, bnd hI]
 simp only [bne_self_eq_false]
 exact lat_j2 (lat_j4 hbytes hl)
theorem FnLattices : laws_FnLattices.Pure := by
 intro l0 hl0 hl1 hbytes
 refine Ev.rounds (g := fun k => laws_FnLattices.f k l0) ?_
 unfold laws_FnLattices.f laws_big.f
 simp only [Option.bind_some]
 by_cases hbig : (l0.length : Int) > 4096
 ·simp only [decide_eq_true hbig, if_true]
  exact Ev.now _
 ·simp only [decide_eq_false hbig, if_neg Bool.false_ne_true]
  have hl : l0.length ≤ 4096 := by omega
  obtain ⟨p, a, b, c, d, hdraw⟩ := drawColumns_ev hbytes hl
  have hj1 := lat_j1 hbytes hl
  obtain ⟨r, g1, g2, g3⟩ := latticeOf_both p a b c d
  obtain ⟨r', _, g2', g3'⟩ := latticeOf_both p b a d c
  rw [bnd hdraw]
  dsimp only
  rw [bnd g2, bnd g1]
  simp only [if_true, beq_self_eq_true, Bool.not_true, Bool.or_self]
  refine Ev.step (fun k => by rw [laws_FnLattices.j0]) ?_
  simp only [if_neg Bool.false_ne_true]
  by_cases hz : r.2.2.2 = 0
  ·obtain ⟨es, hp, hr, hdet, q1, q2, q3, q4⟩ := latticeOf_law g3 g3' hz
   subst es
   simp only [if_pos hz]
   have m1 := mul_small hr.1 hr.2.2.2
   have m2 := mul_small hr.2.1 hr.2.2.1
   rw [bnd g2', bnd implHoldsVector_ev, bnd implHoldsVector_ev, bnd implIndexOf_ev, wrap_id (x := a * d) (by omega) (by omega), wrap_id (x := b * c) (by omega) (by omega), wrap_id (x := a * d - b * c) (by omega) (by omega), bnd implValuationOf_ev]
   have v1 : HoldsVR p r'.1 r'.2.1 r'.2.2.1 a c = (true, 0) := by unfold HoldsVR; rw [if_pos ⟨hp, q1⟩, if_pos ⟨hr.1, hr.2.2.1⟩, q2]
   have v2 : HoldsVR p r'.1 r'.2.1 r'.2.2.1 b d = (true, 0) := by unfold HoldsVR; rw [if_pos ⟨hp, q1⟩, if_pos ⟨hr.2.1, hr.2.2.2⟩, q3]
   have v3 : IndexOfR p r'.1 r'.2.1 r'.2.2.1 = (r'.1 + r'.2.2.1, 0) := by unfold IndexOfR; rw [if_pos ⟨hp, q1⟩]
   have v4 : ValR p (a * d - b * c) 1 = ((vl p (a * d - b * c) : Int), 0) := by
    unfold ValR
    rw [if_pos hp, if_pos ⟨⟨by omega, by omega⟩, by omega, by omega⟩, if_neg (by rintro (h | h); exact hdet h; exact absurd h (by omega)), one_val hp]
    simp
   simp only [v1, v2, v3, v4, hz, q4, if_true, beq_self_eq_true, Bool.not_true, Bool.or_self, if_neg Bool.false_ne_true]
   rw [bnd IsLattice_ev]
   simp only [decide_eq_true (show IsP p ∧ Lat p r'.1 r'.2.1 r'.2.2.1 from ⟨hp, q1⟩), if_true]
   exact hj1
  ·simp only [if_neg hz]
   exact hj1

end Go.Proofs.Ytkfodnlogflcpaa.Pure

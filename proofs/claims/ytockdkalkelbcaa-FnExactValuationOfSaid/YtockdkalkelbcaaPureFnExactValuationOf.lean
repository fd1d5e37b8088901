/- ValuationOf and the reference's ValuationOf answer the same for every prime and every fraction. No condition. -/
import Derived.Test.YtockdkalkelbcaaPFnExactValuationOfx2
import Derived.Test.YtockdkalkelbcaaMath
namespace Go.Proofs.Ytockdkalkelbcaa.Pure
open Go.RowKit Go.Proofs.Ytockdkalkelbcaa.PFnExactValuationOf Go.Proofs.YtockdkalkelbcaaW.PrintWords Go.Proofs.YtockdkalkelbcaaW.PrintLast Go.Proofs.YtockdkalkelbcaaW.PrintMore Go.Proofs.Ytockdkalkelbcaa.Math
set_option linter.unusedVariables false
set_option linter.unusedSimpArgs false
theorem isPrime_eq (p : Int) : impl_isPrime.f p = some (decide (IsP p)) := by
  unfold impl_isPrime.f IsP
  by_cases h2 : p = 2
  · subst h2; rfl
  by_cases h3 : p = 3
  · subst h3; rfl
  by_cases h5 : p = 5
  · subst h5; rfl
  by_cases h7 : p = 7
  · subst h7; rfl
  simp [h2, h3, h5, h7]
theorem l01Prime_eq (p : Int) : spec_l01Prime.f p = some (decide (IsP p)) := by
  unfold spec_l01Prime.f IsP
  by_cases h2 : p = 2
  · subst h2; rfl
  by_cases h3 : p = 3
  · subst h3; rfl
  by_cases h5 : p = 5
  · subst h5; rfl
  by_cases h7 : p = 7
  · subst h7; rfl
  simp [h2, h3, h5, h7]
theorem l01In_eq (n a b : Int) : spec_l01In.f n a b = some (decide (a ≤ n ∧ n ≤ b)) := by
  unfold spec_l01In.f
  by_cases h : n ≥ a
  · rw [if_pos h]; simp [h]
  · rw [if_neg h]; simp; omega
theorem valuation_l {p : Int} (h : IsP p) : ∀ (v : Nat) (u : Int) (n : Int), ¬ p ∣ u → -9223372036854775807 ≤ p ^ v * u → p ^ v * u ≤ 9223372036854775807 → 0 ≤ n → n + v ≤ 1000 → Ev (fun k => impl_valuation.l0 k p (p ^ v * u) n) (n + v) := by
  intro v
  induction v with
  | zero =>
    intro u n hu h0 h1 hn hv
    refine Ev.step (fun k => by rw [impl_valuation.l0]) ?_
    have hne : ¬ Int.tmod (p ^ 0 * u) p = 0 := fun e => by
      rw [tmod_zero_iff, Int.pow_zero, Int.one_mul] at e; exact hu e
    simp only [if_neg h.ne, if_neg hne]
    exact ev_some (by simp)
  | succ v ih =>
    intro u n hu h0 h1 hn hv
    refine Ev.step (fun k => by rw [impl_valuation.l0]) ?_
    have e0 : p ^ (v + 1) * u = p * (p ^ v * u) := by rw [Int.pow_succ, Int.mul_comm (p ^ v) p, Int.mul_assoc]
    have hd : Int.tmod (p ^ (v + 1) * u) p = 0 := by rw [tmod_zero_iff, e0]; exact Int.dvd_mul_right _ _
    have e1 : Int.tdiv (p ^ (v + 1) * u) p = p ^ v * u := by rw [e0]; exact tdiv_mul_left h.ne
    have hb := tdiv_bounds (n := p ^ (v + 1) * u) (m := p)
    rw [e1] at hb
    have e2 : wrap64 (p ^ v * u) = p ^ v * u := wrap_id (by omega) (by omega)
    have e3 : wrap64 (n + 1) = n + 1 := wrap_id (by omega) (by omega)
    simp only [if_neg h.ne, if_pos hd, e1, e2, e3]
    exact ev_eq (ih u (n + 1) hu (by omega) (by omega) (by omega) (by omega)) (by omega)
theorem valuation_ev {p : Int} (h : IsP p) {x : Int} (hx : x ≠ 0) (h0 : -9223372036854775807 ≤ x) (h1 : x ≤ 9223372036854775807) : Ev (fun k => impl_valuation.f k p x) (vl p x) := by
  unfold impl_valuation.f
  simp only [if_neg hx]
  obtain ⟨u, hu, hnd, _⟩ := vl_split h x hx
  have hv := vl_le_62 h hx h0 h1
  have := valuation_l h (vl p x) u 0 hnd (by omega) (by omega) (by omega) (by omega)
  rw [← hu, Int.zero_add] at this
  exact this
theorem valuation_zero (k : Nat) (p : Int) : impl_valuation.f k p 0 = some 1000 := by unfold impl_valuation.f; rw [if_pos rfl]
theorem valuation_zero_ev (p : Int) : Ev (fun k => impl_valuation.f k p 0) 1000 := ⟨0, fun k _ => valuation_zero k p⟩
/-- Of every number: 1000 for 0. -/
def vx (p x : Int) : Int := if x = 0 then 1000 else vl p x
theorem valuation_any {p : Int} (h : IsP p) {x : Int} (h0 : -9223372036854775807 ≤ x) (h1 : x ≤ 9223372036854775807) : Ev (fun k => impl_valuation.f k p x) (vx p x) := by
  unfold vx
  by_cases hx : x = 0
  · subst hx; rw [if_pos rfl]; exact valuation_zero_ev p
  · rw [if_neg hx]; exact valuation_ev h hx h0 h1
theorem l01Val_l {p : Int} (h : IsP p) : ∀ (v : Nat) (u : Int) (n : Int), ¬ p ∣ u → -9223372036854775807 ≤ p ^ v * u → p ^ v * u ≤ 9223372036854775807 → 0 ≤ n → n + v ≤ 1000 → Ev (fun k => spec_l01Val.l0 k p (p ^ v * u) n) (n + v) := by
  intro v
  induction v with
  | zero =>
    intro u n hu h0 h1 hn hv
    refine Ev.step (fun k => by rw [spec_l01Val.l0]) ?_
    have hne : ¬ Int.tmod (p ^ 0 * u) p = 0 := fun e => by
      rw [tmod_zero_iff, Int.pow_zero, Int.one_mul] at e; exact hu e
    simp only [if_neg h.ne, if_neg hne]
    exact ev_some (by simp)
  | succ v ih =>
    intro u n hu h0 h1 hn hv
    refine Ev.step (fun k => by rw [spec_l01Val.l0]) ?_
    have e0 : p ^ (v + 1) * u = p * (p ^ v * u) := by rw [Int.pow_succ, Int.mul_comm (p ^ v) p, Int.mul_assoc]
    have hd : Int.tmod (p ^ (v + 1) * u) p = 0 := by rw [tmod_zero_iff, e0]; exact Int.dvd_mul_right _ _
    have e1 : Int.tdiv (p ^ (v + 1) * u) p = p ^ v * u := by rw [e0]; exact tdiv_mul_left h.ne
    have hb := tdiv_bounds (n := p ^ (v + 1) * u) (m := p)
    rw [e1] at hb
    have e2 : wrap64 (p ^ v * u) = p ^ v * u := wrap_id (by omega) (by omega)
    have e3 : wrap64 (n + 1) = n + 1 := wrap_id (by omega) (by omega)
    simp only [if_neg h.ne, if_pos hd, e1, e2, e3]
    exact ev_eq (ih u (n + 1) hu (by omega) (by omega) (by omega) (by omega)) (by omega)
theorem l01Val_ev {p : Int} (h : IsP p) {x : Int} (hx : x ≠ 0) (h0 : -9223372036854775807 ≤ x) (h1 : x ≤ 9223372036854775807) : Ev (fun k => spec_l01Val.f k p x) (vl p x) := by
  unfold spec_l01Val.f
  obtain ⟨u, hu, hnd, _⟩ := vl_split h x hx
  have hv := vl_le_62 h hx h0 h1
  have := l01Val_l h (vl p x) u 0 hnd (by omega) (by omega) (by omega) (by omega)
  rw [← hu, Int.zero_add] at this
  exact this
theorem rd_at (pre : List Int) (b : Int) (ys : List Int) : rd (pre ++ b :: ys) (pre.length : Int) = b := by
  unfold rd
  simp [List.getD_eq_getElem?_getD]
theorem within_l {m : Int} (h0 : 0 ≤ m) (h1 : m ≤ 9223372036854775807) : ∀ (ys pre : List Int), (pre ++ ys).length ≤ 1000 → Ev (fun k => impl_within.l0 k m (pre ++ ys) ((pre ++ ys).length : Int) pre.length) (decide (∀ b ∈ ys, -m ≤ b ∧ b ≤ m)) := by
  intro ys
  induction ys with
  | nil =>
    intro pre _
    refine Ev.step (fun k => by rw [impl_within.l0]) ?_
    simp only [List.append_nil, if_neg (Int.lt_irrefl _)]
    exact ev_some (by simp)
  | cons b ys ih =>
    intro pre hl
    refine Ev.step (fun k => by rw [impl_within.l0]) ?_
    have hl' : (pre ++ b :: ys).length = pre.length + (ys.length + 1) := by simp
    have hlt : (pre.length : Int) < ((pre ++ b :: ys).length : Int) := by omega
    have em : wrap64 (-m) = -m := wrap_id (by omega) (by omega)
    simp only [if_pos hlt, if_pos (show (0 : Int) ≤ (pre.length : Int) by omega), rd_at, em]
    by_cases h2 : b < -m
    · simp only [if_pos h2]
      refine ev_some ?_
      symm
      rw [decide_eq_false_iff_not]
      intro hall
      have := hall b (by simp)
      omega
    · simp only [if_neg h2]
      by_cases h3 : b > m
      · simp only [if_pos h3]
        refine ev_some ?_
        symm
        rw [decide_eq_false_iff_not]
        intro hall
        have := hall b (by simp)
        omega
      · simp only [if_neg h3]
        have e : wrap64 ((pre.length : Int) + 1) = ((pre ++ [b]).length : Int) := by rw [wrap_id (by omega) (by omega)]; simp
        have := ih (pre ++ [b]) (by simpa using hl)
        rw [e]
        simp only [List.append_assoc, List.singleton_append] at this
        refine ev_eq this ?_
        have : (∀ c ∈ b :: ys, -m ≤ c ∧ c ≤ m) ↔ (∀ c ∈ ys, -m ≤ c ∧ c ≤ m) := by simp; omega
        simp only [this]
theorem within2 {m a b : Int} (h0 : 0 ≤ m) (h1 : m ≤ 9223372036854775807) : Ev (fun k => impl_within.f k m [a, b]) (decide ((-m ≤ a ∧ a ≤ m) ∧ -m ≤ b ∧ b ≤ m)) := by
  unfold impl_within.f
  refine ev_eq (within_l h0 h1 _ [] (by simp)) ?_
  simp
theorem within4 {m a b c d : Int} (h0 : 0 ≤ m) (h1 : m ≤ 9223372036854775807) : Ev (fun k => impl_within.f k m [a, b, c, d]) (decide ((-m ≤ a ∧ a ≤ m) ∧ (-m ≤ b ∧ b ≤ m) ∧ (-m ≤ c ∧ c ≤ m) ∧ -m ≤ d ∧ d ≤ m)) := by
  unfold impl_within.f
  refine ev_eq (within_l h0 h1 _ [] (by simp)) ?_
  simp
theorem l01Fraction_ev {n d m : Int} (h0 : 0 ≤ m) (h1 : m ≤ 9223372036854775807) : Ev (fun k => spec_l01Fraction.f k n d m) (if (-m ≤ n ∧ n ≤ m) ∧ -m ≤ d ∧ d ≤ m then (if d = 0 then 5 else 0) else 2) := by
  unfold spec_l01Fraction.f
  have em : wrap64 (-m) = -m := wrap_id (by omega) (by omega)
  simp only [l01In_eq, Option.bind_some, em]
  by_cases h2 : -m ≤ n ∧ n ≤ m
  · simp only [h2, and_self, decide_true, if_true, true_and]
    refine Ev.step (fun k => by rw [spec_l01Fraction.j0]) ?_
    by_cases h3 : -m ≤ d ∧ d ≤ m
    · simp only [h3, and_self, decide_true, Bool.not_true, if_neg Bool.false_ne_true, if_true]
      by_cases h4 : d = 0
      · simp only [if_pos h4]; exact Ev.now _
      · simp only [if_neg h4]; exact Ev.now _
    · simp only [h3, decide_false, Bool.not_false, if_true, if_false]; exact Ev.now _
  · simp only [h2, decide_false, if_neg Bool.false_ne_true, false_and, if_false]
    refine Ev.step (fun k => by rw [spec_l01Fraction.j0]) ?_
    simp only [if_true]; exact Ev.now _
def ValR (p n d : Int) : Int × Int := if IsP p then (if (-100000000000000000 ≤ n ∧ n ≤ 100000000000000000) ∧ -100000000000000000 ≤ d ∧ d ≤ 100000000000000000 then (if n = 0 ∨ d = 0 then (0, 5) else ((vl p n : Int) - vl p d, 0)) else (0, 2)) else (0, 1)
theorem implValuationOf_ev {p n d : Int} : Ev (fun k => impl_ValuationOf.f k p n d) (ValR p n d) := by
  unfold impl_ValuationOf.f ValR
  simp only [isPrime_eq, Option.bind_some]
  by_cases hp : IsP p
  · simp only [hp, decide_true, if_true]
    rw [bnd (within2 (by omega) (by omega))]
    by_cases h1 : (-100000000000000000 ≤ n ∧ n ≤ 100000000000000000) ∧ -100000000000000000 ≤ d ∧ d ≤ 100000000000000000
    · simp only [h1, and_self, decide_true, if_true]
      by_cases h2 : n = 0
      · simp only [if_pos h2]
        refine Ev.step (fun k => by rw [impl_ValuationOf.j0]) ?_
        simp only [if_true, h2, true_or]; exact Ev.now _
      · simp only [if_neg h2]
        by_cases h3 : d = 0
        · refine Ev.step (fun k => by rw [impl_ValuationOf.j0]) ?_
          simp only [h3, beq_self_eq_true, if_true, or_true]; exact Ev.now _
        · refine Ev.step (fun k => by rw [impl_ValuationOf.j0]) ?_
          simp only [beq_eq_false_iff_ne.2 h3, if_neg Bool.false_ne_true, h2, h3, or_self, if_false]
          rw [bnd (valuation_ev hp h2 (by omega) (by omega)), bnd (valuation_ev hp h3 (by omega) (by omega))]
          have b1 := vl_le_62 hp h2 (by omega) (by omega)
          have b2 := vl_le_62 hp h3 (by omega) (by omega)
          rw [wrap_id (by omega) (by omega)]
          exact Ev.now _
    · simp only [h1, decide_false, if_neg Bool.false_ne_true, if_false]; exact Ev.now _
  · simp only [hp, decide_false, if_neg Bool.false_ne_true, if_false]; exact Ev.now _
theorem specValuationOf_ev {p n d : Int} : Ev (fun k => spec_ValuationOf.f k p n d) (ValR p n d) := by
  unfold spec_ValuationOf.f ValR
  simp only [l01Prime_eq, Option.bind_some]
  by_cases hp : IsP p
  · simp only [hp, decide_true, if_true]
    rw [bnd (l01Fraction_ev (by omega) (by omega))]
    by_cases h1 : (-100000000000000000 ≤ n ∧ n ≤ 100000000000000000) ∧ -100000000000000000 ≤ d ∧ d ≤ 100000000000000000
    · simp only [h1, and_self, if_true]
      by_cases h3 : d = 0
      · simp only [h3, if_true, or_true, if_neg (show ¬ (5 : Int) = 0 by omega)]
        refine Ev.step (fun k => by rw [spec_ValuationOf.j0]) ?_
        simp only [if_neg Bool.false_ne_true]
        refine Ev.step (fun k => by rw [spec_ValuationOf.j1]) ?_
        simp only [if_neg (show ¬ (5 : Int) = 0 by omega)]; exact Ev.now _
      · simp only [h3, if_false, if_true, or_false]
        refine Ev.step (fun k => by rw [spec_ValuationOf.j0]) ?_
        by_cases h2 : n = 0
        · simp only [h2, beq_self_eq_true, if_true]
          refine Ev.step (fun k => by rw [spec_ValuationOf.j1]) ?_
          simp only [if_neg (show ¬ (5 : Int) = 0 by omega)]; exact Ev.now _
        · simp only [beq_eq_false_iff_ne.2 h2, if_neg Bool.false_ne_true, h2, if_false]
          refine Ev.step (fun k => by rw [spec_ValuationOf.j1]) ?_
          simp only [if_true]
          rw [bnd (l01Val_ev hp h2 (by omega) (by omega)), bnd (l01Val_ev hp h3 (by omega) (by omega))]
          have b1 := vl_le_62 hp h2 (by omega) (by omega)
          have b2 := vl_le_62 hp h3 (by omega) (by omega)
          rw [wrap_id (by omega) (by omega)]
          exact Ev.now _
    · simp only [h1, if_false, if_neg (show ¬ (2 : Int) = 0 by omega)]
      refine Ev.step (fun k => by rw [spec_ValuationOf.j0]) ?_
      simp only [if_neg Bool.false_ne_true]
      refine Ev.step (fun k => by rw [spec_ValuationOf.j1]) ?_
      simp only [if_neg (show ¬ (2 : Int) = 0 by omega)]; exact Ev.now _
  · simp only [hp, decide_false, if_neg Bool.false_ne_true, if_false]; exact Ev.now _
theorem FnExactValuationOf : laws_FnExactValuationOf.Pure := by
  intro a0 a1 a2 w0 w1 w2
  refine Ev.rounds (g := fun k => laws_FnExactValuationOf.f k a0 a1 a2) ?_
  unfold laws_FnExactValuationOf.f
  rw [bnd specValuationOf_ev, bnd implValuationOf_ev]
  simp only [if_true]
  exact Ev.now _

end Go.Proofs.Ytockdkalkelbcaa.Pure

/- BallOfEnd and the reference's BallOfEnd answer the same for every prime, end and level. No condition. -/
import Derived.Test.YtbjdnagmjponbaaPFnExactBallOfEndx4
import Derived.Test.YtbjdnagmjponbaaMath
namespace Go.Proofs.Ytbjdnagmjponbaa.Pure
open Go.RowKit Go.Proofs.Ytbjdnagmjponbaa.PFnExactBallOfEnd Go.Proofs.YtbjdnagmjponbaaW.PrintWords Go.Proofs.YtbjdnagmjponbaaW.PrintLast Go.Proofs.YtbjdnagmjponbaaW.PrintMore Go.Proofs.Ytbjdnagmjponbaa.Math
set_option linter.unusedVariables false
set_option linter.unusedSimpArgs false
theorem isPrime_eq (p : Int) : impl_isPrime.f p = some (decide (IsP p)) := by
  unfold impl_isPrime.f IsP
  by_cases h2 : p = 2
  · subst h2; rfl
  by_cases h3 : p = 3
  · subst h3; rfl
  by_cases h5 : p = 5
  · subst h5; rfl
  by_cases h7 : p = 7
  · subst h7; rfl
  simp [h2, h3, h5, h7]
theorem l01Prime_eq (p : Int) : spec_l01Prime.f p = some (decide (IsP p)) := by
  unfold spec_l01Prime.f IsP
  by_cases h2 : p = 2
  · subst h2; rfl
  by_cases h3 : p = 3
  · subst h3; rfl
  by_cases h5 : p = 5
  · subst h5; rfl
  by_cases h7 : p = 7
  · subst h7; rfl
  simp [h2, h3, h5, h7]
theorem l01In_eq (n a b : Int) : spec_l01In.f n a b = some (decide (a ≤ n ∧ n ≤ b)) := by
  unfold spec_l01In.f
  by_cases h : n ≥ a
  · rw [if_pos h]; simp [h]
  · rw [if_neg h]; simp; omega
theorem isLevel_eq (n : Int) : impl_isLevel.f n = some (decide (-6 ≤ n ∧ n ≤ 6)) := by
  unfold impl_isLevel.f
  by_cases h : n ≥ (-6)
  · rw [if_pos h]; simp [h]
  · rw [if_neg h]; simp; omega
theorem power_l {p : Int} (h : IsP p) (n : Nat) (hn : p ^ n ≤ 9223372036854775807) (hn' : n ≤ 1000) : ∀ d i, i + d = n → Ev (fun k => impl_power.l0 k p (p ^ i) n i) (p ^ n) := by
  intro d
  induction d with
  | zero =>
    intro i hi
    obtain rfl : i = n := by omega
    refine Ev.step (fun k => by rw [impl_power.l0]) ?_
    simp only [if_neg (Int.lt_irrefl _)]
    exact Ev.now _
  | succ d ih =>
    intro i hi
    refine Ev.step (fun k => by rw [impl_power.l0]) ?_
    have h1 : (i : Int) < n := by omega
    have h2 := pow_pos' h (i + 1)
    have h3 := pow_mono h (m := i + 1) (n := n) (by omega)
    have e1 : wrap64 (p ^ i * p) = p ^ (i + 1) := by rw [← show p ^ (i + 1) = p ^ i * p from Int.pow_succ p i]; exact wrap_id (by omega) (by omega)
    have e2 : wrap64 ((i : Int) + 1) = ((i + 1 : Nat) : Int) := by rw [wrap_id (by omega) (by omega)]; omega
    simp only [if_pos h1, e1, e2]
    exact ih (i + 1) (by omega)
theorem power_big {p : Int} (h : IsP p) {n : Nat} (hn : p ^ n ≤ 9223372036854775807) (hn' : n ≤ 1000) : Ev (fun k => impl_power.f k p n) (p ^ n) := by
  unfold impl_power.f
  have := power_l h n hn hn' n 0 (by omega)
  rw [Int.pow_zero] at this
  exact this
theorem power_ev {p : Int} (h : IsP p) {n : Int} (hn : n ≤ 22) : Ev (fun k => impl_power.f k p n) (p ^ n.toNat) := by
  by_cases h0 : 0 ≤ n
  · have := power_big h (n := n.toNat) (by have := pow_le_22 h (n := n.toNat) (by omega); omega) (by omega)
    rw [Int.toNat_of_nonneg h0] at this
    exact this
  · unfold impl_power.f
    refine Ev.step (fun k => by rw [impl_power.l0]) ?_
    have e : n.toNat = 0 := by omega
    simp only [if_neg (show ¬ (0 : Int) < n by omega), e, Int.pow_zero]
    exact Ev.now _
/-- The power that lies in a number. -/
theorem power_any {p x : Int} (h : IsP p) (hx : x ≠ 0) (h0 : -9223372036854775807 ≤ x) (h1 : x ≤ 9223372036854775807) : Ev (fun k => impl_power.f k p (vl p x)) (p ^ vl p x) :=
  power_big h (by have := pow_vl_le h hx; omega) (by have := vl_le_62 h hx h0 h1; omega)
theorem l01Power_l {p : Int} (h : IsP p) : ∀ (d : Nat) (i : Nat), p ^ (i + d) ≤ 9223372036854775807 → i + d ≤ 1000 → Ev (fun k => spec_l01Power.l0 k p d (p ^ i)) (p ^ (i + d)) := by
  intro d
  induction d with
  | zero =>
    intro i _ _
    refine Ev.step (fun k => by rw [spec_l01Power.l0]) ?_
    simp only [if_neg (show ¬ ((0 : Nat) : Int) > 0 by omega)]
    exact Ev.now _
  | succ d ih =>
    intro i hi hi'
    refine Ev.step (fun k => by rw [spec_l01Power.l0]) ?_
    have h2 := pow_pos' h (i + 1)
    have h3 := pow_mono h (m := i + 1) (n := i + (d + 1)) (by omega)
    have e1 : wrap64 (p ^ i * p) = p ^ (i + 1) := by rw [← show p ^ (i + 1) = p ^ i * p from Int.pow_succ p i]; exact wrap_id (by omega) (by omega)
    have e2 : wrap64 (((d + 1 : Nat) : Int) - 1) = (d : Int) := by rw [wrap_id (by omega) (by omega)]; omega
    simp only [if_pos (show ((d + 1 : Nat) : Int) > 0 by omega), e1, e2]
    have e3 : i + (d + 1) = i + 1 + d := by omega
    rw [e3] at hi ⊢
    exact ih (i + 1) hi (by omega)
theorem l01Power_big {p : Int} (h : IsP p) {n : Nat} (hn : p ^ n ≤ 9223372036854775807) (hn' : n ≤ 1000) : Ev (fun k => spec_l01Power.f k p n) (p ^ n) := by
  unfold spec_l01Power.f
  have := l01Power_l h n 0 (by rw [Nat.zero_add]; exact hn) (by omega)
  rw [Int.pow_zero, Nat.zero_add] at this
  exact this
theorem l01Power_ev {p : Int} (h : IsP p) {n : Int} (hn : n ≤ 22) : Ev (fun k => spec_l01Power.f k p n) (p ^ n.toNat) := by
  by_cases h0 : 0 ≤ n
  · have := l01Power_big h (n := n.toNat) (by have := pow_le_22 h (n := n.toNat) (by omega); omega) (by omega)
    rw [Int.toNat_of_nonneg h0] at this
    exact this
  · unfold spec_l01Power.f
    refine Ev.step (fun k => by rw [spec_l01Power.l0]) ?_
    have e : n.toNat = 0 := by omega
    simp only [if_neg (show ¬ n > 0 by omega), e, Int.pow_zero]
    exact Ev.now _
theorem l01Power_any {p x : Int} (h : IsP p) (hx : x ≠ 0) (h0 : -9223372036854775807 ≤ x) (h1 : x ≤ 9223372036854775807) : Ev (fun k => spec_l01Power.f k p (vl p x)) (p ^ vl p x) :=
  l01Power_big h (by have := pow_vl_le h hx; omega) (by have := vl_le_62 h hx h0 h1; omega)
theorem valuation_l {p : Int} (h : IsP p) : ∀ (v : Nat) (u : Int) (n : Int), ¬ p ∣ u → -9223372036854775807 ≤ p ^ v * u → p ^ v * u ≤ 9223372036854775807 → 0 ≤ n → n + v ≤ 1000 → Ev (fun k => impl_valuation.l0 k p (p ^ v * u) n) (n + v) := by
  intro v
  induction v with
  | zero =>
    intro u n hu h0 h1 hn hv
    refine Ev.step (fun k => by rw [impl_valuation.l0]) ?_
    have hne : ¬ Int.tmod (p ^ 0 * u) p = 0 := fun e => by
      rw [tmod_zero_iff, Int.pow_zero, Int.one_mul] at e; exact hu e
    simp only [if_neg h.ne, if_neg hne]
    exact ev_some (by simp)
  | succ v ih =>
    intro u n hu h0 h1 hn hv
    refine Ev.step (fun k => by rw [impl_valuation.l0]) ?_
    have e0 : p ^ (v + 1) * u = p * (p ^ v * u) := by rw [Int.pow_succ, Int.mul_comm (p ^ v) p, Int.mul_assoc]
    have hd : Int.tmod (p ^ (v + 1) * u) p = 0 := by rw [tmod_zero_iff, e0]; exact Int.dvd_mul_right _ _
    have e1 : Int.tdiv (p ^ (v + 1) * u) p = p ^ v * u := by rw [e0]; exact tdiv_mul_left h.ne
    have hb := tdiv_bounds (n := p ^ (v + 1) * u) (m := p)
    rw [e1] at hb
    have e2 : wrap64 (p ^ v * u) = p ^ v * u := wrap_id (by omega) (by omega)
    have e3 : wrap64 (n + 1) = n + 1 := wrap_id (by omega) (by omega)
    simp only [if_neg h.ne, if_pos hd, e1, e2, e3]
    exact ev_eq (ih u (n + 1) hu (by omega) (by omega) (by omega) (by omega)) (by omega)
theorem valuation_ev {p : Int} (h : IsP p) {x : Int} (hx : x ≠ 0) (h0 : -9223372036854775807 ≤ x) (h1 : x ≤ 9223372036854775807) : Ev (fun k => impl_valuation.f k p x) (vl p x) := by
  unfold impl_valuation.f
  simp only [if_neg hx]
  obtain ⟨u, hu, hnd, _⟩ := vl_split h x hx
  have hv := vl_le_62 h hx h0 h1
  have := valuation_l h (vl p x) u 0 hnd (by omega) (by omega) (by omega) (by omega)
  rw [← hu, Int.zero_add] at this
  exact this
theorem valuation_zero (k : Nat) (p : Int) : impl_valuation.f k p 0 = some 1000 := by unfold impl_valuation.f; rw [if_pos rfl]
theorem valuation_zero_ev (p : Int) : Ev (fun k => impl_valuation.f k p 0) 1000 := ⟨0, fun k _ => valuation_zero k p⟩
/-- Of every number: 1000 for 0. -/
def vx (p x : Int) : Int := if x = 0 then 1000 else vl p x
theorem valuation_any {p : Int} (h : IsP p) {x : Int} (h0 : -9223372036854775807 ≤ x) (h1 : x ≤ 9223372036854775807) : Ev (fun k => impl_valuation.f k p x) (vx p x) := by
  unfold vx
  by_cases hx : x = 0
  · subst hx; rw [if_pos rfl]; exact valuation_zero_ev p
  · rw [if_neg hx]; exact valuation_ev h hx h0 h1
theorem l01Val_l {p : Int} (h : IsP p) : ∀ (v : Nat) (u : Int) (n : Int), ¬ p ∣ u → -9223372036854775807 ≤ p ^ v * u → p ^ v * u ≤ 9223372036854775807 → 0 ≤ n → n + v ≤ 1000 → Ev (fun k => spec_l01Val.l0 k p (p ^ v * u) n) (n + v) := by
  intro v
  induction v with
  | zero =>
    intro u n hu h0 h1 hn hv
    refine Ev.step (fun k => by rw [spec_l01Val.l0]) ?_
    have hne : ¬ Int.tmod (p ^ 0 * u) p = 0 := fun e => by
      rw [tmod_zero_iff, Int.pow_zero, Int.one_mul] at e; exact hu e
    simp only [if_neg h.ne, if_neg hne]
    exact ev_some (by simp)
  | succ v ih =>
    intro u n hu h0 h1 hn hv
    refine Ev.step (fun k => by rw [spec_l01Val.l0]) ?_
    have e0 : p ^ (v + 1) * u = p * (p ^ v * u) := by rw [Int.pow_succ, Int.mul_comm (p ^ v) p, Int.mul_assoc]
    have hd : Int.tmod (p ^ (v + 1) * u) p = 0 := by rw [tmod_zero_iff, e0]; exact Int.dvd_mul_right _ _
    have e1 : Int.tdiv (p ^ (v + 1) * u) p = p ^ v * u := by rw [e0]; exact tdiv_mul_left h.ne
    have hb := tdiv_bounds (n := p ^ (v + 1) * u) (m := p)
    rw [e1] at hb
    have e2 : wrap64 (p ^ v * u) = p ^ v * u := wrap_id (by omega) (by omega)
    have e3 : wrap64 (n + 1) = n + 1 := wrap_id (by omega) (by omega)
    simp only [if_neg h.ne, if_pos hd, e1, e2, e3]
    exact ev_eq (ih u (n + 1) hu (by omega) (by omega) (by omega) (by omega)) (by omega)
theorem l01Val_ev {p : Int} (h : IsP p) {x : Int} (hx : x ≠ 0) (h0 : -9223372036854775807 ≤ x) (h1 : x ≤ 9223372036854775807) : Ev (fun k => spec_l01Val.f k p x) (vl p x) := by
  unfold spec_l01Val.f
  obtain ⟨u, hu, hnd, _⟩ := vl_split h x hx
  have hv := vl_le_62 h hx h0 h1
  have := l01Val_l h (vl p x) u 0 hnd (by omega) (by omega) (by omega) (by omega)
  rw [← hu, Int.zero_add] at this
  exact this
theorem mod_ev {n m : Int} (hm : 0 < m) (hm' : m ≤ 4611686018427387904) : impl_mod.f n m = some (n % m) := by
  unfold impl_mod.f
  have hb := mod_between (n := n) hm
  rw [if_neg (show ¬ m = 0 by omega), wrap_id (by omega) (by omega), mod_eq hm]
theorem rd_at (pre : List Int) (b : Int) (ys : List Int) : rd (pre ++ b :: ys) (pre.length : Int) = b := by
  unfold rd
  simp [List.getD_eq_getElem?_getD]
theorem within_l {m : Int} (h0 : 0 ≤ m) (h1 : m ≤ 9223372036854775807) : ∀ (ys pre : List Int), (pre ++ ys).length ≤ 1000 → Ev (fun k => impl_within.l0 k m (pre ++ ys) ((pre ++ ys).length : Int) pre.length) (decide (∀ b ∈ ys, -m ≤ b ∧ b ≤ m)) := by
  intro ys
  induction ys with
  | nil =>
    intro pre _
    refine Ev.step (fun k => by rw [impl_within.l0]) ?_
    simp only [List.append_nil, if_neg (Int.lt_irrefl _)]
    exact ev_some (by simp)
  | cons b ys ih =>
    intro pre hl
    refine Ev.step (fun k => by rw [impl_within.l0]) ?_
    have hl' : (pre ++ b :: ys).length = pre.length + (ys.length + 1) := by simp
    have hlt : (pre.length : Int) < ((pre ++ b :: ys).length : Int) := by omega
    have em : wrap64 (-m) = -m := wrap_id (by omega) (by omega)
    simp only [if_pos hlt, if_pos (show (0 : Int) ≤ (pre.length : Int) by omega), rd_at, em]
    by_cases h2 : b < -m
    · simp only [if_pos h2]
      refine ev_some ?_
      symm
      rw [decide_eq_false_iff_not]
      intro hall
      have := hall b (by simp)
      omega
    · simp only [if_neg h2]
      by_cases h3 : b > m
      · simp only [if_pos h3]
        refine ev_some ?_
        symm
        rw [decide_eq_false_iff_not]
        intro hall
        have := hall b (by simp)
        omega
      · simp only [if_neg h3]
        have e : wrap64 ((pre.length : Int) + 1) = ((pre ++ [b]).length : Int) := by rw [wrap_id (by omega) (by omega)]; simp
        have := ih (pre ++ [b]) (by simpa using hl)
        rw [e]
        simp only [List.append_assoc, List.singleton_append] at this
        refine ev_eq this ?_
        have : (∀ c ∈ b :: ys, -m ≤ c ∧ c ≤ m) ↔ (∀ c ∈ ys, -m ≤ c ∧ c ≤ m) := by simp; omega
        simp only [this]
theorem within2 {m a b : Int} (h0 : 0 ≤ m) (h1 : m ≤ 9223372036854775807) : Ev (fun k => impl_within.f k m [a, b]) (decide ((-m ≤ a ∧ a ≤ m) ∧ -m ≤ b ∧ b ≤ m)) := by
  unfold impl_within.f
  refine ev_eq (within_l h0 h1 _ [] (by simp)) ?_
  simp
theorem gcd_l : ∀ (n : Nat) (a b : Int), b.natAbs ≤ n → a.natAbs ≤ 9223372036854775807 → b.natAbs ≤ 9223372036854775807 → Ev (fun k => impl_gcd.l0 k a b) (Int.gcd a b : Int) := by
  intro n
  induction n with
  | zero =>
    intro a b hb h0 h1
    obtain rfl : b = 0 := by omega
    refine Ev.step (fun k => by rw [impl_gcd.l0]) ?_
    simp only [if_true]
    refine ev_some ?_
    rw [wrap_id (by omega) (by omega), Int.gcd_zero]
    unfold mx; split <;> omega
  | succ n ih =>
    intro a b hb h0 h1
    refine Ev.step (fun k => by rw [impl_gcd.l0]) ?_
    by_cases hz : b = 0
    · subst hz
      simp only [if_true]
      refine ev_some ?_
      rw [wrap_id (by omega) (by omega), Int.gcd_zero]
      unfold mx; split <;> omega
    · simp only [if_neg hz]
      have hlt := tmod_natAbs_lt (a := a) hz
      refine ev_eq (ih b (Int.tmod a b) (by omega) (by omega) (by omega)) ?_
      rw [gcd_tmod]
theorem gcd_ev {a b : Int} (h0 : a.natAbs ≤ 9223372036854775807) (h1 : b.natAbs ≤ 9223372036854775807) : Ev (fun k => impl_gcd.f k a b) (Int.gcd a b : Int) := by
  unfold impl_gcd.f
  exact gcd_l b.natAbs a b (Nat.le_refl _) h0 h1
theorem l01Gcd_l : ∀ (n : Nat) (a b : Int), b.natAbs ≤ n → a.natAbs ≤ 9223372036854775807 → b.natAbs ≤ 9223372036854775807 → Ev (fun k => spec_l01Gcd.l0 k a b) (Int.gcd a b : Int) := by
  intro n
  induction n with
  | zero =>
    intro a b hb h0 h1
    obtain rfl : b = 0 := by omega
    refine Ev.step (fun k => by rw [spec_l01Gcd.l0]) ?_
    simp only [if_true]
    refine ev_some ?_
    rw [wrap_id (by omega) (by omega), Int.gcd_zero]
    unfold mx; split <;> omega
  | succ n ih =>
    intro a b hb h0 h1
    refine Ev.step (fun k => by rw [spec_l01Gcd.l0]) ?_
    by_cases hz : b = 0
    · subst hz
      simp only [if_true]
      refine ev_some ?_
      rw [wrap_id (by omega) (by omega), Int.gcd_zero]
      unfold mx; split <;> omega
    · simp only [if_neg hz]
      have hlt := tmod_natAbs_lt (a := a) hz
      refine ev_eq (ih b (Int.tmod a b) (by omega) (by omega) (by omega)) ?_
      rw [gcd_tmod]
theorem l01Gcd_ev {a b : Int} (h0 : a.natAbs ≤ 9223372036854775807) (h1 : b.natAbs ≤ 9223372036854775807) : Ev (fun k => spec_l01Gcd.f k a b) (Int.gcd a b : Int) := by
  unfold spec_l01Gcd.f
  exact l01Gcd_l b.natAbs a b (Nat.le_refl _) h0 h1
theorem IsEnd_ev {n d : Int} : Ev (fun k => impl_IsEnd.f k n d) (decide (EndOk n d)) := by
  unfold impl_IsEnd.f EndOk
  by_cases hd : d = 0
  · simp only [if_pos hd]
    exact ev_dec (by simp)
  · simp only [if_neg hd]
    rw [bnd (within2 (by omega) (by omega))]
    by_cases h1 : (-1000000 ≤ n ∧ n ≤ 1000000) ∧ -1000000 ≤ d ∧ d ≤ 1000000
    · simp only [h1, and_self, decide_true, if_true]
      by_cases h2 : d > 0
      · simp only [if_pos h2]
        rw [bnd (gcd_ev (by omega) (by omega))]
        exact ev_dec (by simp; omega)
      · simp only [if_neg h2]
        exact ev_dec (by simp; omega)
    · simp only [h1, decide_false, if_neg Bool.false_ne_true]
      exact ev_dec (by simp; omega)
theorem l01End_ev {n d : Int} : Ev (fun k => spec_l01End.f k n d) (decide (EndOk n d)) := by
  unfold spec_l01End.f EndOk
  by_cases hd : d = 0
  · simp only [if_pos hd]
    exact ev_dec (by simp)
  · simp only [if_neg hd, l01In_eq, Option.bind_some]
    by_cases h1 : 1 ≤ d ∧ d ≤ 1000000
    · simp only [h1, and_self, decide_true, if_true]
      by_cases h2 : -1000000 ≤ n ∧ n ≤ 1000000
      · simp only [h2, and_self, decide_true, if_true]
        rw [bnd (l01Gcd_ev (by omega) (by omega))]
        exact ev_dec (by simp; omega)
      · simp only [h2, decide_false, if_neg Bool.false_ne_true]
        exact ev_dec (by simp; omega)
    · simp only [h1, decide_false, if_neg Bool.false_ne_true]
      exact ev_dec (by simp; omega)
theorem l01MulMod_eq {a b m : Int} (h0 : 0 < m) (h1 : m ≤ 100000000000) : spec_l01MulMod.f a b m = some (a * b % m) := by
  unfold spec_l01MulMod.f
  have ha := mod_between (n := a) h0
  have hb := mod_between (n := b) h0
  have ea : wrap64 (Int.tmod a m + m) = Int.tmod a m + m := wrap_id (by omega) (by omega)
  have eb : wrap64 (Int.tmod b m + m) = Int.tmod b m + m := wrap_id (by omega) (by omega)
  have a0 := Int.emod_nonneg a (Int.ne_of_gt h0)
  have a1 := Int.emod_lt_of_pos a h0
  have b0 := Int.emod_nonneg b (Int.ne_of_gt h0)
  have b1 := Int.emod_lt_of_pos b h0
  rw [if_neg (Int.ne_of_gt h0)]
  simp only [ea, eb, mod_eq h0]
  rw [Int.tmod_eq_emod_of_nonneg b0, Int.tdiv_eq_ediv_of_nonneg b0]
  have hq0 : 0 ≤ b % m / 1000000 := by omega
  have hq1 : b % m / 1000000 ≤ 100000 := by omega
  have hr0 : 0 ≤ b % m % 1000000 := by omega
  have hr1 : b % m % 1000000 ≤ 1000000 := by omega
  have eq : wrap64 (b % m / 1000000) = b % m / 1000000 := wrap_id (by omega) (by omega)
  rw [eq]
  have p1 : 0 ≤ a % m * (b % m / 1000000) := Int.mul_nonneg a0 hq0
  have p2 : a % m * (b % m / 1000000) ≤ 100000000000 * 100000 := Int.mul_le_mul (by omega) hq1 hq0 (by omega)
  have p3 : 0 ≤ a % m * (b % m % 1000000) := Int.mul_nonneg a0 hr0
  have p4 : a % m * (b % m % 1000000) ≤ 100000000000 * 1000000 := Int.mul_le_mul (by omega) hr1 hr0 (by omega)
  rw [wrap_id (x := a % m * (b % m / 1000000)) (by omega) (by omega), wrap_id (x := a % m * (b % m % 1000000)) (by omega) (by omega)]
  rw [Int.tmod_eq_emod_of_nonneg p1, Int.tmod_eq_emod_of_nonneg p3]
  have c0 := Int.emod_nonneg (a % m * (b % m / 1000000)) (Int.ne_of_gt h0)
  have c1 := Int.emod_lt_of_pos (a % m * (b % m / 1000000)) h0
  have d0 := Int.emod_nonneg (a % m * (b % m % 1000000)) (Int.ne_of_gt h0)
  have d1 := Int.emod_lt_of_pos (a % m * (b % m % 1000000)) h0
  rw [wrap_id (x := a % m * (b % m / 1000000) % m * 1000000) (by omega) (by omega)]
  have e0 : 0 ≤ a % m * (b % m / 1000000) % m * 1000000 := by omega
  rw [Int.tmod_eq_emod_of_nonneg e0]
  have f0 := Int.emod_nonneg (a % m * (b % m / 1000000) % m * 1000000) (Int.ne_of_gt h0)
  have f1 := Int.emod_lt_of_pos (a % m * (b % m / 1000000) % m * 1000000) h0
  rw [wrap_id (by omega) (by omega), Int.tmod_eq_emod_of_nonneg (by omega), mulmod_eq]
theorem l01InvMod_l {n m : Int} (hm : 0 < m) (hm' : m ≤ 1000000000000) : ∀ (k : Nat) (a b : Nat) (x y : Int), b ≤ k → Euc n m a b x y → (a : Int) ≤ 1000000000000 → (b : Int) ≤ 1000000000000 →
    ∃ r, Ev (fun k => spec_l01InvMod.l0 k m a b x y) r ∧ 0 ≤ r ∧ r < m ∧ m ∣ r * n - 1 := by
  intro k
  induction k with
  | zero =>
    intro a b x y hb he ha1 hb1
    obtain rfl : b = 0 := by omega
    have hl := he.last
    have hbd := he.bounds
    refine ⟨x % m, ?_, Int.emod_nonneg _ (Int.ne_of_gt hm), Int.emod_lt_of_pos _ hm, ?_⟩
    · refine Ev.step (fun k => by rw [spec_l01InvMod.l0]) ?_
      have hx := mod_between (n := x) hm
      rw [wrap_id (x := Int.tmod x m + m) (by omega) (by omega), mod_eq hm]
      simp only [Int.natCast_zero, if_true, if_neg (Int.ne_of_gt hm)]
      exact Ev.now _
    · have h1 := dvd_emod_sub x m
      have h2 : x % m * n - 1 = (x % m - x) * n + (x * n - 1) := by rw [Int.sub_mul]; omega
      rw [h2]
      exact Int.dvd_add (Int.dvd_trans h1 (Int.dvd_mul_right _ _)) hl
  | succ k ih =>
    intro a b x y hb he ha1 hb1
    by_cases hz : b = 0
    · exact ih a b x y (by omega) he ha1 hb1
    · have hnx := he.next (by omega)
      obtain ⟨r, hr, h0, h1, h2⟩ := ih b (a % b) y (x - (a / b : Nat) * y) (by have := Nat.mod_lt a (show 0 < b by omega); omega) hnx hb1 (by have := Nat.mod_lt a (show 0 < b by omega); omega)
      refine ⟨r, ?_, h0, h1, h2⟩
      refine Ev.step (fun k => by rw [spec_l01InvMod.l0]) ?_
      suffices hs : wrap64 (Int.tdiv (a : Int) b) = (a / b : Nat) ∧ wrap64 ((a : Int) - wrap64 ((a / b : Nat) * (b : Int))) = (a % b : Nat) ∧ wrap64 (x - wrap64 ((a / b : Nat) * y)) = x - (a / b : Nat) * y by
        simp only [if_neg (show ¬ (b : Int) = 0 by omega), hs.1, hs.2.1, hs.2.2]
        exact hr
      have hbd := he.bounds
      have hbd2 := hnx.bounds
      have hbz : ¬ (b : Int) = 0 := by omega
      have eq : Int.tdiv (a : Int) b = (a / b : Nat) := by rw [Int.tdiv_eq_ediv_of_nonneg (by omega), Int.natCast_ediv]
      have hdm := Nat.div_add_mod a b
      have hle := Nat.div_le_self a b
      have hmod := Nat.mod_le a b
      have hprod : ((a / b : Nat) : Int) * b = a - (a % b : Nat) := by
        have : ((b * (a / b) + a % b : Nat) : Int) = (a : Int) := by rw [hdm]
        rw [Int.natCast_add, Int.natCast_mul, Int.mul_comm (b : Int)] at this
        omega
      rw [eq]
      exact euc_wraps hle hmod hprod (by omega) hm hm' hbd hbd2
theorem l01InvMod_ev {p n : Int} (h : IsP p) {e : Nat} (he : e ≤ 14) (hn : ¬ p ∣ n) :
    ∃ r, Ev (fun k => spec_l01InvMod.f k n (p ^ e)) r ∧ 0 ≤ r ∧ r < p ^ e ∧ p ^ e ∣ r * n - 1 := by
  have h0 := pow_pos' h e
  have h7 := pow_le_seven h (m := e) (n := 14) (by omega)
  have e14 : (7 : Int) ^ 14 = 678223072849 := by decide
  have hb := mod_between (n := n) h0
  have hst := Euc.start (n := n) h0 (coprime_start h hn e)
  have hr0 := Int.emod_nonneg n (Int.ne_of_gt h0)
  have hr1 := Int.emod_lt_of_pos n h0
  obtain ⟨r, hr, a, b, c⟩ := l01InvMod_l h0 (by omega) _ _ _ _ _ (Nat.le_refl _) hst (by omega) (by omega)
  refine ⟨r, ?_, a, b, c⟩
  unfold spec_l01InvMod.f
  simp only [if_neg (Int.ne_of_gt h0)]
  rw [wrap_id (x := Int.tmod n (p ^ e) + p ^ e) (by omega) (by omega), mod_eq h0]
  rw [Int.toNat_of_nonneg hr0, Int.toNat_of_nonneg (by omega)] at hr
  exact hr
/-- The reference's ball of a level with a fraction: x / p^6 is as near to the fraction as the level asks. -/
theorem l01Of_ev {p num den level x : Int} (h : IsP p) (l0 : -6 ≤ level) (l1 : level ≤ 6) (hden : den ≠ 0)
    (n0 : -4000000000000000000 ≤ num ∧ num ≤ 4000000000000000000) (d0 : -4000000000000000000 ≤ den ∧ den ≤ 4000000000000000000)
    (hx : p ^ ((level + 6).toNat + vl p den) ∣ x * den - num * p ^ 6) (hfit : num = 0 ∨ vl p den ≤ vl p num + 6) :
    Ev (fun k => spec_l01Of.f k p num den level) (level, ofMt p level x, (ofMd p level x : Int), true) := by
  unfold spec_l01Of.f
  simp only [l01In_eq, Option.bind_some, show (-6 ≤ level ∧ level ≤ 6) from ⟨l0, l1⟩, and_self, decide_true, if_true]
  by_cases hz : num = 0
  · obtain ⟨h1, h2⟩ := of_low h hden hx (.inl hz) l0
    simp only [if_pos hz, h1, h2]
    exact Ev.now _
  · simp only [if_neg hz]
    have b1 := vl_le_62 h hz (by omega) (by omega)
    have b2 := vl_le_62 h hden (by omega) (by omega)
    rw [bnd (l01Val_ev h hz (by omega) (by omega)), bnd (l01Val_ev h hden (by omega) (by omega))]
    have e1 : wrap64 ((vl p num : Int) - vl p den) = (vl p num : Int) - vl p den := wrap_id (by omega) (by omega)
    have e2 : wrap64 ((vl p den : Int) - vl p num) = (vl p den : Int) - vl p num := wrap_id (by omega) (by omega)
    simp only [e1, e2]
    by_cases hlow : level ≤ (vl p num : Int) - vl p den
    · obtain ⟨h1, h2⟩ := of_low h hden hx (.inr (by omega)) l0
      simp only [if_pos hlow, h1, h2]
      exact Ev.now _
    · have hfit' : vl p den ≤ vl p num + 6 := by rcases hfit with h1 | h1; exact absurd h1 hz; exact h1
      have e3 : mx ((vl p den : Int) - vl p num) 0 = ((vl p den - vl p num : Nat) : Int) := by unfold mx; split <;> omega
      have e4 : mx ((vl p num : Int) - vl p den) 0 = ((vl p num - vl p den : Nat) : Int) := by unfold mx; split <;> omega
      have e5 : wrap64 (level + ((vl p den - vl p num : Nat) : Int)) = level + ((vl p den - vl p num : Nat) : Int) := wrap_id (by omega) (by omega)
      simp only [if_neg hlow, e3, e4, e5, if_neg (show ¬ ((vl p den - vl p num : Nat) : Int) > 6 by omega)]
      obtain ⟨un, hun, hund, _⟩ := vl_split h num hz
      obtain ⟨ud, hud, hudd, _⟩ := vl_split h den hden
      rw [bnd (l01Power_ev h (by omega)), bnd (l01Power_any h hz (by omega) (by omega))]
      simp only [if_neg (pow_ne' h _)]
      rw [bnd (l01Power_any h hden (by omega) (by omega))]
      simp only [if_neg (pow_ne' h _)]
      have q1 : Int.tdiv num (p ^ vl p num) = un := by
        conv => lhs; arg 1; rw [hun]
        exact tdiv_mul_left (pow_ne' h _)
      have q2 : Int.tdiv den (p ^ vl p den) = ud := by
        conv => lhs; arg 1; rw [hud]
        exact tdiv_mul_left (pow_ne' h _)
      have c1 := tdiv_bounds (n := num) (m := p ^ vl p num)
      have c2 := tdiv_bounds (n := den) (m := p ^ vl p den)
      rw [q1] at c1
      rw [q2] at c2
      simp only [q1, q2, wrap_id (x := un) (by omega) (by omega), wrap_id (x := ud) (by omega) (by omega)]
      have h12 := pow_le_seven h (m := (level + ((vl p den - vl p num : Nat) : Int)).toNat) (n := 12) (by omega)
      have e12 : (7 : Int) ^ 12 = 13841287201 := by decide
      have hpp := pow_pos' h (level + ((vl p den - vl p num : Nat) : Int)).toNat
      obtain ⟨inv, hinv, _, _, hid⟩ := l01InvMod_ev h (n := ud) (e := (level + ((vl p den - vl p num : Nat) : Int)).toNat) (by omega) hudd
      rw [bnd hinv]
      simp only [l01MulMod_eq hpp (by omega), Option.bind_some]
      rw [bnd (l01Power_ev h (by omega))]
      have hx' : p ^ ((level + 6).toNat + vl p den) ∣ x * (p ^ vl p den * ud) - p ^ vl p num * un * p ^ 6 := by
        rw [← hun, ← hud]; exact hx
      obtain ⟨h1, h2⟩ := of_high h l0 l1 hund hudd hx' (by omega) hfit' hid
      rw [h1, h2]
      simp only [Int.toNat_natCast]
      exact Ev.now _
/-- It doesn't fit. -/
theorem l01Of_no {p num den level : Int} (h : IsP p) (l0 : -6 ≤ level) (l1 : level ≤ 6) (hden : den ≠ 0) (hnum : num ≠ 0)
    (n0 : -4000000000000000000 ≤ num ∧ num ≤ 4000000000000000000) (d0 : -4000000000000000000 ≤ den ∧ den ≤ 4000000000000000000) (hfit : vl p num + 6 < vl p den) :
    Ev (fun k => spec_l01Of.f k p num den level) (0, 0, 0, false) := by
  unfold spec_l01Of.f
  simp only [l01In_eq, Option.bind_some, show (-6 ≤ level ∧ level ≤ 6) from ⟨l0, l1⟩, and_self, decide_true, if_true, if_neg hnum]
  have b1 := vl_le_62 h hnum (by omega) (by omega)
  have b2 := vl_le_62 h hden (by omega) (by omega)
  rw [bnd (l01Val_ev h hnum (by omega) (by omega)), bnd (l01Val_ev h hden (by omega) (by omega))]
  have e1 : wrap64 ((vl p num : Int) - vl p den) = (vl p num : Int) - vl p den := wrap_id (by omega) (by omega)
  have e2 : wrap64 ((vl p den : Int) - vl p num) = (vl p den : Int) - vl p num := wrap_id (by omega) (by omega)
  have e3 : mx ((vl p den : Int) - vl p num) 0 = ((vl p den - vl p num : Nat) : Int) := by unfold mx; split <;> omega
  simp only [e1, e2, e3, if_neg (show ¬ level ≤ (vl p num : Int) - vl p den by omega), if_pos (show ((vl p den - vl p num : Nat) : Int) > 6 by omega)]
  exact Ev.now _
theorem l01Of_out {p num den level : Int} (hl : ¬ (-6 ≤ level ∧ level ≤ 6)) : Ev (fun k => spec_l01Of.f k p num den level) (0, 0, 0, false) := by
  unfold spec_l01Of.f
  simp only [l01In_eq, Option.bind_some, hl, decide_false, if_neg Bool.false_ne_true]
  exact Ev.now _
theorem ofMark_ev {p level x : Int} (h : IsP p) (hx : -4000000000000000000 ≤ x ∧ x ≤ 4000000000000000000) :
    Ev (fun k => impl_ofMark.f k p level x) (if -6 ≤ level ∧ level ≤ 6 then (level, ofMt p level x, (ofMd p level x : Int), true) else (0, 0, 0, false)) := by
  unfold impl_ofMark.f
  simp only [isLevel_eq, Option.bind_some]
  by_cases hl : -6 ≤ level ∧ level ≤ 6
  · have e : wrap64 (level + 6) = level + 6 := wrap_id (by omega) (by omega)
    simp only [hl, and_self, decide_true, if_true, e]
    rw [bnd (power_ev h (by omega))]
    have h0 := pow_pos' h (level + 6).toNat
    have h1 := pow_le_seven h (m := (level + 6).toNat) (n := 12) (by omega)
    have e12 : (7 : Int) ^ 12 = 13841287201 := by decide
    simp only [mod_ev h0 (by omega), Option.bind_some]
    have y0 := Int.emod_nonneg x (Int.ne_of_gt h0)
    have y1 := Int.emod_lt_of_pos x h0
    rw [bnd (valuation_any h (by omega) (by omega))]
    have hvx : vx p (x % p ^ (level + 6).toNat) ≤ 1000 ∧ 0 ≤ vx p (x % p ^ (level + 6).toNat) := by
      unfold vx
      split
      · omega
      · rename_i hz
        have := vl_le_62 h hz (by omega) (by omega)
        omega
    have e2 : wrap64 (6 - vx p (x % p ^ (level + 6).toNat)) = 6 - vx p (x % p ^ (level + 6).toNat) := wrap_id (by omega) (by omega)
    have e3 : mx (6 - vx p (x % p ^ (level + 6).toNat)) 0 = (ofMd p level x : Int) := by
      unfold vx ofMd mx
      by_cases hz : x % p ^ (level + 6).toNat = 0
      · simp only [if_pos hz]; omega
      · simp only [if_neg hz]; split <;> omega
    have hd6 := ofMd_le p level x
    have e4 : wrap64 (6 - (ofMd p level x : Int)) = 6 - (ofMd p level x : Int) := wrap_id (by omega) (by omega)
    simp only [e2, e3, e4]
    rw [bnd (power_ev h (by omega))]
    have e5 : (6 - (ofMd p level x : Int)).toNat = 6 - ofMd p level x := by omega
    simp only [if_neg (pow_ne' h _), e5]
    have hq := tdiv_bounds (n := x % p ^ (level + 6).toNat) (m := p ^ (6 - ofMd p level x))
    rw [wrap_id (by omega) (by omega)]
    have e6 : Int.tdiv (x % p ^ (level + 6).toNat) (p ^ (6 - ofMd p level x)) = ofMt p level x := by
      unfold ofMt
      exact Int.tdiv_eq_ediv_of_nonneg y0
    rw [e6]
    exact Ev.now _
  · simp only [hl, decide_false, if_neg Bool.false_ne_true, if_false]
    exact Ev.now _
def fitR (r : Int × Int × Int × Bool) : Int × Int × Int × Int := if r.2.2.2 = true then (r.1, r.2.1, r.2.2.1, 0) else (0, 0, 0, 3)
theorem fitted_eq (r : Int × Int × Int × Bool) : impl_fitted.f r.1 r.2.1 r.2.2.1 r.2.2.2 = some (fitR r) := by
  unfold impl_fitted.f fitR
  split <;> rfl
set_option maxRecDepth 100000 in
theorem len8_dec : ∀ n : Fin 256, 1 ≤ n.val → 1 ≤ (bt (⟨#[0, 1, 2, 2, 3, 3, 3, 3, 4, 4, 4, 4, 4, 4, 4, 4, 5, 5, 5, 5, 5, 5, 5, 5, 5, 5, 5, 5, 5, 5, 5, 5, 6, 6, 6, 6, 6, 6, 6, 6, 6, 6, 6, 6, 6, 6, 6, 6, 6, 6, 6, 6, 6, 6, 6, 6, 6, 6, 6, 6, 6, 6, 6, 6, 7, 7, 7, 7, 7, 7, 7, 7, 7, 7, 7, 7, 7, 7, 7, 7, 7, 7, 7, 7, 7, 7, 7, 7, 7, 7, 7, 7, 7, 7, 7, 7, 7, 7, 7, 7, 7, 7, 7, 7, 7, 7, 7, 7, 7, 7, 7, 7, 7, 7, 7, 7, 7, 7, 7, 7, 7, 7, 7, 7, 7, 7, 7, 7, 8, 8, 8, 8, 8, 8, 8, 8, 8, 8, 8, 8, 8, 8, 8, 8, 8, 8, 8, 8, 8, 8, 8, 8, 8, 8, 8, 8, 8, 8, 8, 8, 8, 8, 8, 8, 8, 8, 8, 8, 8, 8, 8, 8, 8, 8, 8, 8, 8, 8, 8, 8, 8, 8, 8, 8, 8, 8, 8, 8, 8, 8, 8, 8, 8, 8, 8, 8, 8, 8, 8, 8, 8, 8, 8, 8, 8, 8, 8, 8, 8, 8, 8, 8, 8, 8, 8, 8, 8, 8, 8, 8, 8, 8, 8, 8, 8, 8, 8, 8, 8, 8, 8, 8, 8, 8, 8, 8, 8, 8, 8, 8, 8, 8, 8, 8, 8, 8, 8, 8, 8, 8, 8, 8, 8, 8, 8, 8]⟩ : ByteArray) (n.val : Int)).toNat ∧ 0 ≤ bt (⟨#[0, 1, 2, 2, 3, 3, 3, 3, 4, 4, 4, 4, 4, 4, 4, 4, 5, 5, 5, 5, 5, 5, 5, 5, 5, 5, 5, 5, 5, 5, 5, 5, 6, 6, 6, 6, 6, 6, 6, 6, 6, 6, 6, 6, 6, 6, 6, 6, 6, 6, 6, 6, 6, 6, 6, 6, 6, 6, 6, 6, 6, 6, 6, 6, 7, 7, 7, 7, 7, 7, 7, 7, 7, 7, 7, 7, 7, 7, 7, 7, 7, 7, 7, 7, 7, 7, 7, 7, 7, 7, 7, 7, 7, 7, 7, 7, 7, 7, 7, 7, 7, 7, 7, 7, 7, 7, 7, 7, 7, 7, 7, 7, 7, 7, 7, 7, 7, 7, 7, 7, 7, 7, 7, 7, 7, 7, 7, 7, 8, 8, 8, 8, 8, 8, 8, 8, 8, 8, 8, 8, 8, 8, 8, 8, 8, 8, 8, 8, 8, 8, 8, 8, 8, 8, 8, 8, 8, 8, 8, 8, 8, 8, 8, 8, 8, 8, 8, 8, 8, 8, 8, 8, 8, 8, 8, 8, 8, 8, 8, 8, 8, 8, 8, 8, 8, 8, 8, 8, 8, 8, 8, 8, 8, 8, 8, 8, 8, 8, 8, 8, 8, 8, 8, 8, 8, 8, 8, 8, 8, 8, 8, 8, 8, 8, 8, 8, 8, 8, 8, 8, 8, 8, 8, 8, 8, 8, 8, 8, 8, 8, 8, 8, 8, 8, 8, 8, 8, 8, 8, 8, 8, 8, 8, 8, 8, 8, 8, 8, 8, 8, 8, 8, 8, 8, 8, 8]⟩ : ByteArray) (n.val : Int) ∧ (bt (⟨#[0, 1, 2, 2, 3, 3, 3, 3, 4, 4, 4, 4, 4, 4, 4, 4, 5, 5, 5, 5, 5, 5, 5, 5, 5, 5, 5, 5, 5, 5, 5, 5, 6, 6, 6, 6, 6, 6, 6, 6, 6, 6, 6, 6, 6, 6, 6, 6, 6, 6, 6, 6, 6, 6, 6, 6, 6, 6, 6, 6, 6, 6, 6, 6, 7, 7, 7, 7, 7, 7, 7, 7, 7, 7, 7, 7, 7, 7, 7, 7, 7, 7, 7, 7, 7, 7, 7, 7, 7, 7, 7, 7, 7, 7, 7, 7, 7, 7, 7, 7, 7, 7, 7, 7, 7, 7, 7, 7, 7, 7, 7, 7, 7, 7, 7, 7, 7, 7, 7, 7, 7, 7, 7, 7, 7, 7, 7, 7, 8, 8, 8, 8, 8, 8, 8, 8, 8, 8, 8, 8, 8, 8, 8, 8, 8, 8, 8, 8, 8, 8, 8, 8, 8, 8, 8, 8, 8, 8, 8, 8, 8, 8, 8, 8, 8, 8, 8, 8, 8, 8, 8, 8, 8, 8, 8, 8, 8, 8, 8, 8, 8, 8, 8, 8, 8, 8, 8, 8, 8, 8, 8, 8, 8, 8, 8, 8, 8, 8, 8, 8, 8, 8, 8, 8, 8, 8, 8, 8, 8, 8, 8, 8, 8, 8, 8, 8, 8, 8, 8, 8, 8, 8, 8, 8, 8, 8, 8, 8, 8, 8, 8, 8, 8, 8, 8, 8, 8, 8, 8, 8, 8, 8, 8, 8, 8, 8, 8, 8, 8, 8, 8, 8, 8, 8, 8, 8]⟩ : ByteArray) (n.val : Int)).toNat ≤ 8 ∧
    2 ^ ((bt (⟨#[0, 1, 2, 2, 3, 3, 3, 3, 4, 4, 4, 4, 4, 4, 4, 4, 5, 5, 5, 5, 5, 5, 5, 5, 5, 5, 5, 5, 5, 5, 5, 5, 6, 6, 6, 6, 6, 6, 6, 6, 6, 6, 6, 6, 6, 6, 6, 6, 6, 6, 6, 6, 6, 6, 6, 6, 6, 6, 6, 6, 6, 6, 6, 6, 7, 7, 7, 7, 7, 7, 7, 7, 7, 7, 7, 7, 7, 7, 7, 7, 7, 7, 7, 7, 7, 7, 7, 7, 7, 7, 7, 7, 7, 7, 7, 7, 7, 7, 7, 7, 7, 7, 7, 7, 7, 7, 7, 7, 7, 7, 7, 7, 7, 7, 7, 7, 7, 7, 7, 7, 7, 7, 7, 7, 7, 7, 7, 7, 8, 8, 8, 8, 8, 8, 8, 8, 8, 8, 8, 8, 8, 8, 8, 8, 8, 8, 8, 8, 8, 8, 8, 8, 8, 8, 8, 8, 8, 8, 8, 8, 8, 8, 8, 8, 8, 8, 8, 8, 8, 8, 8, 8, 8, 8, 8, 8, 8, 8, 8, 8, 8, 8, 8, 8, 8, 8, 8, 8, 8, 8, 8, 8, 8, 8, 8, 8, 8, 8, 8, 8, 8, 8, 8, 8, 8, 8, 8, 8, 8, 8, 8, 8, 8, 8, 8, 8, 8, 8, 8, 8, 8, 8, 8, 8, 8, 8, 8, 8, 8, 8, 8, 8, 8, 8, 8, 8, 8, 8, 8, 8, 8, 8, 8, 8, 8, 8, 8, 8, 8, 8, 8, 8, 8, 8, 8, 8]⟩ : ByteArray) (n.val : Int)).toNat - 1) ≤ n.val ∧ n.val < 2 ^ (bt (⟨#[0, 1, 2, 2, 3, 3, 3, 3, 4, 4, 4, 4, 4, 4, 4, 4, 5, 5, 5, 5, 5, 5, 5, 5, 5, 5, 5, 5, 5, 5, 5, 5, 6, 6, 6, 6, 6, 6, 6, 6, 6, 6, 6, 6, 6, 6, 6, 6, 6, 6, 6, 6, 6, 6, 6, 6, 6, 6, 6, 6, 6, 6, 6, 6, 7, 7, 7, 7, 7, 7, 7, 7, 7, 7, 7, 7, 7, 7, 7, 7, 7, 7, 7, 7, 7, 7, 7, 7, 7, 7, 7, 7, 7, 7, 7, 7, 7, 7, 7, 7, 7, 7, 7, 7, 7, 7, 7, 7, 7, 7, 7, 7, 7, 7, 7, 7, 7, 7, 7, 7, 7, 7, 7, 7, 7, 7, 7, 7, 8, 8, 8, 8, 8, 8, 8, 8, 8, 8, 8, 8, 8, 8, 8, 8, 8, 8, 8, 8, 8, 8, 8, 8, 8, 8, 8, 8, 8, 8, 8, 8, 8, 8, 8, 8, 8, 8, 8, 8, 8, 8, 8, 8, 8, 8, 8, 8, 8, 8, 8, 8, 8, 8, 8, 8, 8, 8, 8, 8, 8, 8, 8, 8, 8, 8, 8, 8, 8, 8, 8, 8, 8, 8, 8, 8, 8, 8, 8, 8, 8, 8, 8, 8, 8, 8, 8, 8, 8, 8, 8, 8, 8, 8, 8, 8, 8, 8, 8, 8, 8, 8, 8, 8, 8, 8, 8, 8, 8, 8, 8, 8, 8, 8, 8, 8, 8, 8, 8, 8, 8, 8, 8, 8, 8, 8, 8, 8]⟩ : ByteArray) (n.val : Int)).toNat := by decide +kernel
set_option maxRecDepth 100000 in
theorem len8_tab {i : Int} (h0 : 1 ≤ i) (h1 : i < 256) : ∃ l : Nat, bt (⟨#[0, 1, 2, 2, 3, 3, 3, 3, 4, 4, 4, 4, 4, 4, 4, 4, 5, 5, 5, 5, 5, 5, 5, 5, 5, 5, 5, 5, 5, 5, 5, 5, 6, 6, 6, 6, 6, 6, 6, 6, 6, 6, 6, 6, 6, 6, 6, 6, 6, 6, 6, 6, 6, 6, 6, 6, 6, 6, 6, 6, 6, 6, 6, 6, 7, 7, 7, 7, 7, 7, 7, 7, 7, 7, 7, 7, 7, 7, 7, 7, 7, 7, 7, 7, 7, 7, 7, 7, 7, 7, 7, 7, 7, 7, 7, 7, 7, 7, 7, 7, 7, 7, 7, 7, 7, 7, 7, 7, 7, 7, 7, 7, 7, 7, 7, 7, 7, 7, 7, 7, 7, 7, 7, 7, 7, 7, 7, 7, 8, 8, 8, 8, 8, 8, 8, 8, 8, 8, 8, 8, 8, 8, 8, 8, 8, 8, 8, 8, 8, 8, 8, 8, 8, 8, 8, 8, 8, 8, 8, 8, 8, 8, 8, 8, 8, 8, 8, 8, 8, 8, 8, 8, 8, 8, 8, 8, 8, 8, 8, 8, 8, 8, 8, 8, 8, 8, 8, 8, 8, 8, 8, 8, 8, 8, 8, 8, 8, 8, 8, 8, 8, 8, 8, 8, 8, 8, 8, 8, 8, 8, 8, 8, 8, 8, 8, 8, 8, 8, 8, 8, 8, 8, 8, 8, 8, 8, 8, 8, 8, 8, 8, 8, 8, 8, 8, 8, 8, 8, 8, 8, 8, 8, 8, 8, 8, 8, 8, 8, 8, 8, 8, 8, 8, 8, 8, 8]⟩ : ByteArray) i = l ∧ IsLen i l ∧ l ≤ 8 := by
  obtain ⟨n, rfl⟩ := Int.eq_ofNat_of_zero_le (show 0 ≤ i by omega)
  have h := len8_dec ⟨n, by omega⟩ (by simp only; omega)
  simp only at h
  refine ⟨_, (Int.toNat_of_nonneg h.2.1).symm, ⟨h.1, ?_, ?_⟩, h.2.2.1⟩
  · have := h.2.2.2.1
    exact_mod_cast this
  · have := h.2.2.2.2
    exact_mod_cast this
set_option maxRecDepth 100000 in
theorem Len64_j {x n : Int} (h0 : 1 ≤ x) (h1 : x < 4294967296) (hn : 0 ≤ n ∧ n ≤ 32) : ∃ l : Nat, Ev (fun k => bits_Len64.j0 k x n) (n + l) ∧ IsLen x l ∧ l ≤ 32 := by
  by_cases h16 : x ≥ 65536
  · by_cases h8 : x / 65536 ≥ 256
    · have e : x / 65536 / 256 % 256 = x / 65536 / 256 := by omega
      obtain ⟨l, hl, hi, hb⟩ := len8_tab (i := x / 65536 / 256) (by omega) (by omega)
      refine ⟨24 + l, ?_, ?_, by omega⟩
      · refine Ev.step (fun k => by rw [bits_Len64.j0]) ?_
        simp only [if_pos h16, if_pos h8, e, if_pos (show 0 ≤ x / 65536 / 256 by omega), if_pos (show x / 65536 / 256 < 256 by omega), hl]
        rw [wrap_id (x := n + 16) (by omega) (by omega), wrap_id (x := n + 16 + 8) (by omega) (by omega), wrap_id (x := (l : Int)) (by omega) (by omega), wrap_id (by omega) (by omega)]
        exact ev_some (by omega)
      · have e2 : x / 2 ^ 24 = x / 65536 / 256 := by omega
        refine IsLen.up 24 ?_
        rw [e2]; exact hi
    · have e : x / 65536 % 256 = x / 65536 := by omega
      obtain ⟨l, hl, hi, hb⟩ := len8_tab (i := x / 65536) (by omega) (by omega)
      refine ⟨16 + l, ?_, ?_, by omega⟩
      · refine Ev.step (fun k => by rw [bits_Len64.j0]) ?_
        simp only [if_pos h16, if_neg h8, e, if_pos (show 0 ≤ x / 65536 by omega), if_pos (show x / 65536 < 256 by omega), hl]
        rw [wrap_id (x := n + 16) (by omega) (by omega), wrap_id (x := (l : Int)) (by omega) (by omega), wrap_id (by omega) (by omega)]
        exact ev_some (by omega)
      · refine IsLen.up 16 ?_
        exact hi
  · by_cases h8 : x ≥ 256
    · have e : x / 256 % 256 = x / 256 := by omega
      obtain ⟨l, hl, hi, hb⟩ := len8_tab (i := x / 256) (by omega) (by omega)
      refine ⟨8 + l, ?_, ?_, by omega⟩
      · refine Ev.step (fun k => by rw [bits_Len64.j0]) ?_
        simp only [if_neg h16, if_pos h8, e, if_pos (show 0 ≤ x / 256 by omega), if_pos (show x / 256 < 256 by omega), hl]
        rw [wrap_id (x := n + 8) (by omega) (by omega), wrap_id (x := (l : Int)) (by omega) (by omega), wrap_id (by omega) (by omega)]
        exact ev_some (by omega)
      · refine IsLen.up 8 ?_
        exact hi
    · have e : x % 256 = x := by omega
      obtain ⟨l, hl, hi, hb⟩ := len8_tab (i := x) (by omega) (by omega)
      refine ⟨l, ?_, hi, by omega⟩
      refine Ev.step (fun k => by rw [bits_Len64.j0]) ?_
      simp only [if_neg h16, if_neg h8, e, if_pos (show 0 ≤ x by omega), if_pos (show x < 256 by omega), hl]
      rw [wrap_id (x := (l : Int)) (by omega) (by omega), wrap_id (by omega) (by omega)]
      exact Ev.now _
theorem Len64_ev {x : Int} (h0 : 1 ≤ x) (h1 : x < 18446744073709551616) : ∃ l : Nat, Ev (fun k => bits_Len64.f k x) l ∧ IsLen x l ∧ l ≤ 64 := by
  unfold bits_Len64.f
  by_cases h32 : x ≥ 4294967296
  · obtain ⟨l, hl, hi, hb⟩ := Len64_j (x := x / 4294967296) (n := 32) (by omega) (by omega) (by omega)
    refine ⟨32 + l, ?_, IsLen.up 32 hi, by omega⟩
    simp only [if_pos h32]
    exact ev_eq hl (by omega)
  · obtain ⟨l, hl, hi, hb⟩ := Len64_j (x := x) (n := 0) (by omega) (by omega) (by omega)
    refine ⟨l, ?_, hi, by omega⟩
    simp only [if_neg h32]
    exact ev_eq hl (by omega)
theorem Mul64_eq {a b : Int} (a0 : 0 ≤ a) (a1 : a < 18446744073709551616) (b0 : 0 ≤ b) (b1 : b < 18446744073709551616) : bits_Mul64.f a b = some (a * b / 18446744073709551616, a * b % 18446744073709551616) := by
  unfold bits_Mul64.f
  rw [u64_mask32 a0 a1, u64_mask32 b0 b1]
  have hah : 0 ≤ a / 4294967296 ∧ a / 4294967296 ≤ 4294967295 := by omega
  have hal : 0 ≤ a % 4294967296 ∧ a % 4294967296 ≤ 4294967295 := by omega
  have hbh : 0 ≤ b / 4294967296 ∧ b / 4294967296 ≤ 4294967295 := by omega
  have hbl : 0 ≤ b % 4294967296 ∧ b % 4294967296 ≤ 4294967295 := by omega
  have hab : a * b = (a / 4294967296) * (b / 4294967296) * 18446744073709551616 + ((a / 4294967296) * (b % 4294967296) + (a % 4294967296) * (b / 4294967296)) * 4294967296 + (a % 4294967296) * (b % 4294967296) := by
    have ea : a = 4294967296 * (a / 4294967296) + a % 4294967296 := by omega
    have eb : b = 4294967296 * (b / 4294967296) + b % 4294967296 := by omega
    generalize a / 4294967296 = x1 at *
    generalize a % 4294967296 = x0 at *
    generalize b / 4294967296 = y1 at *
    generalize b % 4294967296 = y0 at *
    rw [ea, eb]
    simp only [Int.add_mul, Int.mul_add]
    have e1 : 4294967296 * x1 * (4294967296 * y1) = x1 * y1 * 18446744073709551616 := by
      rw [show (18446744073709551616 : Int) = 4294967296 * 4294967296 by decide]
      simp only [Int.mul_assoc, Int.mul_comm, Int.mul_left_comm]
    have e2 : 4294967296 * x1 * y0 = x1 * y0 * 4294967296 := by rw [Int.mul_assoc, Int.mul_comm]
    have e3 : x0 * (4294967296 * y1) = x0 * y1 * 4294967296 := by rw [Int.mul_left_comm, Int.mul_comm]
    rw [e1, e2, e3]
    omega
  have bound : ∀ {x y : Int}, 0 ≤ x ∧ x ≤ 4294967295 → 0 ≤ y ∧ y ≤ 4294967295 → 0 ≤ x * y ∧ x * y ≤ 18446744065119617025 := by
    intro x y hx hy
    have a := Int.mul_le_mul hx.2 hy.2 hy.1 (by omega)
    exact ⟨Int.mul_nonneg hx.1 hy.1, by omega⟩
  have p11 := bound hah hbh
  have p10 := bound hah hbl
  have p01 := bound hal hbh
  have p00 := bound hal hbl
  generalize (a / 4294967296) * (b / 4294967296) = q11 at *
  generalize (a / 4294967296) * (b % 4294967296) = q10 at *
  generalize (a % 4294967296) * (b / 4294967296) = q01 at *
  generalize (a % 4294967296) * (b % 4294967296) = q00 at *
  rw [hab]
  have w1 : IntKind.u64.wrap q11 = q11 := wrapu_id (by omega) (by omega)
  have w2 : IntKind.u64.wrap q10 = q10 := wrapu_id (by omega) (by omega)
  have w3 : IntKind.u64.wrap q01 = q01 := wrapu_id (by omega) (by omega)
  have w4 : IntKind.u64.wrap q00 = q00 := wrapu_id (by omega) (by omega)
  rw [w1, w2, w3, w4]
  have w5 : IntKind.u64.wrap (q10 + q00 / 4294967296) = q10 + q00 / 4294967296 := wrapu_id (by omega) (by omega)
  rw [w5, u64_mask32 (by omega) (by omega)]
  have w6 : IntKind.u64.wrap ((q10 + q00 / 4294967296) % 4294967296 + q01) = (q10 + q00 / 4294967296) % 4294967296 + q01 := wrapu_id (by omega) (by omega)
  have w7 : IntKind.u64.wrap (q11 + (q10 + q00 / 4294967296) / 4294967296) = q11 + (q10 + q00 / 4294967296) / 4294967296 := wrapu_id (by omega) (by omega)
  rw [w6, w7, wrapu, wrapu]
  congr 2
  omega
theorem Div64_l0 {Y s y1 y0 u v w : Int} {R : Int × Int} (hy : Y = y1 * 4294967296 + y0) (hy1 : 2147483648 ≤ y1) (hy1' : y1 < 4294967296) (hy0 : 0 ≤ y0) (hy0' : y0 < 4294967296) (huY : u < Y) (hv : 0 ≤ v) (hv' : v < 4294967296)
    (hend : Ev (fun k => bits_Div64.j2 k Y s y1 y0 u v w ((u * 4294967296 + v) / Y)) R) : ∀ (n : Nat) (q r : Int), (4294967296 - r).toNat ≤ n → Guess Y y1 u (u * 4294967296 + v) q r → Ev (fun k => bits_Div64.l0 k Y s y1 y0 u v w q r) R := by
  have hY : 0 < Y := by omega
  intro n
  induction n with
  | zero => intro q r hn hg; obtain ⟨_, _, h3, h4, _⟩ := hg; omega
  | succ n ih =>
    intro q r hn hg
    have hg' := hg
    obtain ⟨g1, g2, g3, g4, g5, g6⟩ := hg'
    have go : ∀ b : Bool, (b = true ↔ 4294967296 ≤ q ∨ 4294967296 * r + v < q * y0) → Ev (fun k => bits_Div64.j1 k Y s y1 y0 u v w q r b) R := by
      intro b hb
      refine Ev.step (fun k => by rw [bits_Div64.j1]) ?_
      by_cases hc : 4294967296 ≤ q ∨ 4294967296 * r + v < q * y0
      · obtain ⟨d1, d2, d3⟩ := guess_down hy hY huY hv hv' hg hc
        rw [wrapu_id (n := r + y1) (by omega) (by omega), wrapu_id (n := q - 1) (by omega) (by omega)]
        simp only [hb.2 hc, if_true]
        by_cases hr : r + y1 ≥ 4294967296
        · simp only [if_pos hr]
          have hstop : q - 1 = (u * 4294967296 + v) / Y := by
            have h3 : q - 1 ≤ (u * 4294967296 + v) / Y := by
              rw [Int.le_ediv_iff_mul_le hY, hy, Int.mul_add, ← Int.mul_assoc]
              have h4 : (q - 1) * y0 ≤ 4294967296 * 4294967295 := Int.mul_le_mul (by omega) (by omega) hy0 (by omega)
              omega
            omega
          rw [hstop]; exact hend
        · simp only [if_neg hr]
          exact ih (q - 1) (r + y1) (by omega) ⟨d2, d1, by omega, by omega, by omega, by omega⟩
      · have hbf : b = false := by cases b with
          | true => exact absurd (hb.1 rfl) hc
          | false => rfl
        simp only [hbf, if_neg Bool.false_ne_true]
        have := guess_stop hy hY hg (by omega)
        rw [this]; exact hend
    refine Ev.step (fun k => by rw [bits_Div64.l0]) ?_
    by_cases hq : q ≥ 4294967296
    · simp only [if_pos hq]
      exact go _ (by simp; omega)
    · simp only [if_neg hq]
      have hqy : 0 ≤ q * y0 ∧ q * y0 ≤ 4294967295 * 4294967295 := ⟨Int.mul_nonneg g5 hy0, Int.mul_le_mul (by omega) (by omega) hy0 (by omega)⟩
      rw [wrapu_id (n := q * y0) (by omega) (by omega), wrapu_id (n := 4294967296 * r) (by omega) (by omega), wrapu_id (n := 4294967296 * r + v) (by omega) (by omega)]
      exact go _ (by simp; omega)
theorem Div64_l1 {Y y1 y0 u v q1 : Int} {s : Nat} (hs : s ≤ 64) (hy : Y = y1 * 4294967296 + y0) (hy1 : 2147483648 ≤ y1) (hy1' : y1 < 4294967296) (hy0 : 0 ≤ y0) (hy0' : y0 < 4294967296) (hu : 0 ≤ u) (huY : u < Y) (hv : 0 ≤ v) (hv' : v < 4294967296)
    (hq1 : 0 ≤ q1) (hq1' : q1 < 4294967296) : ∀ (n : Nat) (q r : Int), (4294967296 - r).toNat ≤ n → Guess Y y1 u (u * 4294967296 + v) q r →
    Ev (fun k => bits_Div64.l1 k Y s y1 y0 v q1 r u q) (q1 * 4294967296 + (u * 4294967296 + v) / Y, (u * 4294967296 + v) % Y / 2 ^ s) := by
  have hY : 0 < Y := by omega
  have hlast : ∀ q : Int, q = (u * 4294967296 + v) / Y → IntKind.u64.wrap (IntKind.u64.wrap (q1 * 4294967296) + q) = q1 * 4294967296 + (u * 4294967296 + v) / Y ∧
      shr .u64 (IntKind.u64.wrap (IntKind.u64.wrap (IntKind.u64.wrap (u * 4294967296) + v) - IntKind.u64.wrap (q * Y))) s = (u * 4294967296 + v) % Y / 2 ^ s := by
    intro q hq
    have hqr := quot_rem (n := u * 4294967296 + v) hY
    have hr0 := Int.emod_nonneg (u * 4294967296 + v) (Int.ne_of_gt hY)
    have hr1 := Int.emod_lt_of_pos (u * 4294967296 + v) hY
    have hq0 : 0 ≤ (u * 4294967296 + v) / Y := Int.ediv_nonneg (by omega) (by omega)
    have hqlt : (u * 4294967296 + v) / Y < 4294967296 := by rw [Int.ediv_lt_iff_lt_mul hY]; omega
    rw [shr_u64 hs]
    constructor
    · rw [wrapu_id (n := q1 * 4294967296) (by omega) (by omega), wrapu_id (by omega) (by omega), hq]
    · congr 1
      rw [hq]
      simp only [wrapu]
      generalize (u * 4294967296 + v) / Y * Y = P at *
      generalize (u * 4294967296 + v) % Y = Q at *
      omega
  intro n
  induction n with
  | zero => intro q r hn hg; obtain ⟨_, _, h3, h4, _⟩ := hg; omega
  | succ n ih =>
    intro q r hn hg
    have hg' := hg
    obtain ⟨g1, g2, g3, g4, g5, g6⟩ := hg'
    have hs0 : (0 : Int) ≤ (s : Int) := Int.natCast_nonneg s
    have go : ∀ b : Bool, (b = true ↔ 4294967296 ≤ q ∨ 4294967296 * r + v < q * y0) → Ev (fun k => bits_Div64.j4 k Y s y1 y0 v q1 r u q b) (q1 * 4294967296 + (u * 4294967296 + v) / Y, (u * 4294967296 + v) % Y / 2 ^ s) := by
      intro b hb
      refine Ev.step (fun k => by rw [bits_Div64.j4]) ?_
      by_cases hc : 4294967296 ≤ q ∨ 4294967296 * r + v < q * y0
      · obtain ⟨d1, d2, d3⟩ := guess_down hy hY huY hv hv' hg hc
        rw [wrapu_id (n := r + y1) (by omega) (by omega), wrapu_id (n := q - 1) (by omega) (by omega)]
        simp only [hb.2 hc, if_true]
        by_cases hr : r + y1 ≥ 4294967296
        · simp only [if_pos hr, if_pos hs0]
          have hstop : q - 1 = (u * 4294967296 + v) / Y := by
            have h3 : q - 1 ≤ (u * 4294967296 + v) / Y := by
              rw [Int.le_ediv_iff_mul_le hY, hy, Int.mul_add, ← Int.mul_assoc]
              have h4 : (q - 1) * y0 ≤ 4294967296 * 4294967295 := Int.mul_le_mul (by omega) (by omega) hy0 (by omega)
              omega
            omega
          obtain ⟨l1, l2⟩ := hlast (q - 1) hstop
          rw [l1, l2]
          exact Ev.now _
        · simp only [if_neg hr]
          exact ih (q - 1) (r + y1) (by omega) ⟨d2, d1, by omega, by omega, by omega, by omega⟩
      · have hbf : b = false := by cases b with
          | true => exact absurd (hb.1 rfl) hc
          | false => rfl
        simp only [hbf, if_neg Bool.false_ne_true, if_pos hs0]
        have hstop := guess_stop hy hY hg (by omega)
        obtain ⟨l1, l2⟩ := hlast q hstop
        rw [l1, l2]
        exact Ev.now _
    refine Ev.step (fun k => by rw [bits_Div64.l1]) ?_
    by_cases hq : q ≥ 4294967296
    · simp only [if_pos hq]
      exact go _ (by simp; omega)
    · simp only [if_neg hq]
      have hqy : 0 ≤ q * y0 ∧ q * y0 ≤ 4294967295 * 4294967295 := ⟨Int.mul_nonneg g5 hy0, Int.mul_le_mul (by omega) (by omega) hy0 (by omega)⟩
      rw [wrapu_id (n := q * y0) (by omega) (by omega), wrapu_id (n := 4294967296 * r) (by omega) (by omega), wrapu_id (n := 4294967296 * r + v) (by omega) (by omega)]
      exact go _ (by simp; omega)
theorem Div64_ev {hi lo y : Int} (h0 : 0 ≤ hi) (h1 : hi < y) (hy : y < 18446744073709551616) (l0 : 0 ≤ lo) (l1 : lo < 18446744073709551616) :
    Ev (fun k => bits_Div64.f k hi lo y) ((hi * 18446744073709551616 + lo) / y, (hi * 18446744073709551616 + lo) % y) := by
  unfold bits_Div64.f
  simp only [if_neg (show ¬ y = 0 by omega), if_neg (show ¬ y ≤ hi by omega)]
  by_cases hz : hi = 0
  · simp only [if_pos hz]
    refine ev_some ?_
    rw [hz, Int.zero_mul, Int.zero_add, Int.tdiv_eq_ediv_of_nonneg l0, Int.tmod_eq_emod_of_nonneg l0, wrapu_id (Int.ediv_nonneg l0 (by omega))]
    have := Int.ediv_le_self y l0
    omega
  · obtain ⟨L, hL, ⟨i1, i2, i3⟩, hL64⟩ := Len64_ev (x := y) (by omega) hy
    have hlz : Ev (fun k => bits_LeadingZeros64.f k y) ((64 - L : Nat) : Int) := by
      unfold bits_LeadingZeros64.f
      rw [bnd hL]
      exact ev_some (by rw [wrap_id (by omega) (by omega)]; omega)
    simp only [if_neg hz]
    rw [bnd hlz]
    generalize hs : 64 - L = s
    have hs64 : s ≤ 63 := by omega
    have eL : L = 64 - s := by omega
    subst eL
    have w1 : IntKind.u64.wrap ((s : Nat) : Int) = s := wrapu_id (by omega) (by omega)
    have w2 : IntKind.u64.wrap (64 - (s : Int)) = ((64 - s : Nat) : Int) := by rw [wrapu_id (by omega) (by omega)]; omega
    simp only [w1, w2]
    rw [shl_u64 (x := y) (by omega), shl_u64 (x := hi) (by omega), shl_u64 (x := lo) (by omega), shr_u64 (x := lo) (s := 64 - s) (by omega)]
    have hS := two_pow_pos' s
    have hT := two_pow_pos' (64 - s)
    have hST : (2 : Int) ^ (64 - s) * 2 ^ s = 18446744073709551616 := by
      rw [← Int.pow_add]
      have : 64 - s + s = 64 := by omega
      rw [this]; decide
    have hST1 : (2 : Int) ^ (64 - s - 1) * 2 ^ s = 9223372036854775808 := by
      rw [← Int.pow_add]
      have : 64 - s - 1 + s = 63 := by omega
      rw [this]; decide
    have hY1 : y * 2 ^ s < 18446744073709551616 := by rw [← hST]; exact Int.mul_lt_mul_of_pos_right i3 hS
    have hY0 : 9223372036854775808 ≤ y * 2 ^ s := by rw [← hST1]; exact Int.mul_le_mul_of_nonneg_right i2 (Int.le_of_lt hS)
    have hH0 : 0 ≤ hi * 2 ^ s := Int.mul_nonneg h0 (Int.le_of_lt hS)
    have hH1 : hi * 2 ^ s + 2 ^ s ≤ y * 2 ^ s := by
      have := Int.mul_le_mul_of_nonneg_right (show hi + 1 ≤ y by omega) (Int.le_of_lt hS)
      rw [Int.add_mul, Int.one_mul] at this
      exact this
    have eY : y * 2 ^ s % 18446744073709551616 = y * 2 ^ s := Int.emod_eq_of_lt (by omega) hY1
    have eH : hi * 2 ^ s % 18446744073709551616 = hi * 2 ^ s := Int.emod_eq_of_lt hH0 (by omega)
    have hq0 : 0 ≤ lo / 2 ^ (64 - s) := Int.ediv_nonneg l0 (Int.le_of_lt hT)
    have hq1 : lo / 2 ^ (64 - s) < 2 ^ s := by
      rw [Int.ediv_lt_iff_lt_mul hT, Int.mul_comm, hST]; exact l1
    rw [eY, eH, or_u64 (s := s) (by omega) hH0 (Int.dvd_mul_left _ _) (by omega) hq0 hq1 (by omega)]
    rw [u64_mask32 (x := y * 2 ^ s) (by omega) hY1]
    have hlo := Int.emod_nonneg (lo * 2 ^ s) (show (18446744073709551616 : Int) ≠ 0 by decide)
    have hlo1 := Int.emod_lt_of_pos (lo * 2 ^ s) (show (0 : Int) < 18446744073709551616 by decide)
    rw [u64_mask32 (x := lo * 2 ^ s % 18446744073709551616) hlo hlo1]
    have hV : (hi * 18446744073709551616 + lo) * 2 ^ s = (hi * 2 ^ s + lo / 2 ^ (64 - s)) * 18446744073709551616 + lo * 2 ^ s % 18446744073709551616 := by
      have a1 : lo * 2 ^ s / 18446744073709551616 = lo / 2 ^ (64 - s) := by
        rw [← hST]; exact Int.mul_ediv_mul_of_pos_left lo _ hS
      have a2 := Int.mul_ediv_add_emod (lo * 2 ^ s) 18446744073709551616
      rw [a1] at a2
      rw [Int.add_mul, Int.add_mul, Int.mul_right_comm]
      omega
    have hw : lo * 2 ^ s % 18446744073709551616 = lo * 2 ^ s % 18446744073709551616 / 4294967296 * 4294967296 + lo * 2 ^ s % 18446744073709551616 % 4294967296 := by omega
    obtain ⟨t1, t2⟩ := two_digits hS (show 0 < y by omega) hV hw
    have v10 : 0 ≤ lo * 2 ^ s % 18446744073709551616 / 4294967296 ∧ lo * 2 ^ s % 18446744073709551616 / 4294967296 < 4294967296 := by omega
    have v00 : 0 ≤ lo * 2 ^ s % 18446744073709551616 % 4294967296 ∧ lo * 2 ^ s % 18446744073709551616 % 4294967296 < 4294967296 := by omega
    have u0 : 0 ≤ hi * 2 ^ s + lo / 2 ^ (64 - s) ∧ hi * 2 ^ s + lo / 2 ^ (64 - s) < y * 2 ^ s := by omega
    generalize lo * 2 ^ s % 18446744073709551616 / 4294967296 = v1 at *
    generalize lo * 2 ^ s % 18446744073709551616 % 4294967296 = v0 at *
    generalize hi * 2 ^ s + lo / 2 ^ (64 - s) = u at *
    generalize hYY : y * 2 ^ s = Y at *
    have hy1a : 2147483648 ≤ Y / 4294967296 ∧ Y / 4294967296 < 4294967296 := by omega
    have hy0a : 0 ≤ Y % 4294967296 ∧ Y % 4294967296 < 4294967296 := by omega
    have hYs : Y = Y / 4294967296 * 4294967296 + Y % 4294967296 := by omega
    have hY : 0 < Y := by omega
    simp only [if_pos (show (0 : Int) ≤ (s : Int) by omega), if_pos (show (0 : Int) ≤ ((64 - s : Nat) : Int) by omega), if_neg (show ¬ Y / 4294967296 = 0 by omega)]
    rw [Int.tdiv_eq_ediv_of_nonneg u0.1]
    have g1 := guess_first hYs hy1a.1 hy1a.2 hy0a.1 hy0a.2 u0.1 u0.2 v10.1 v10.2
    have hdm : 0 ≤ u / (Y / 4294967296) * (Y / 4294967296) ∧ u / (Y / 4294967296) * (Y / 4294967296) ≤ u := by
      obtain ⟨ga, _, gc, _, ge, _⟩ := g1
      exact ⟨Int.mul_nonneg ge (by omega), by omega⟩
    have gb := g1
    obtain ⟨_, _, gc, gd, ge, gf⟩ := gb
    rw [wrapu_id (n := u / (Y / 4294967296)) (by omega) (by omega), wrapu_id (n := u / (Y / 4294967296) * (Y / 4294967296)) (by omega) (by omega), wrapu_id (n := u - u / (Y / 4294967296) * (Y / 4294967296)) (by omega) (by omega)]
    refine Div64_l0 hYs hy1a.1 hy1a.2 hy0a.1 hy0a.2 u0.2 v10.1 v10.2 ?_ _ _ _ (Nat.le_refl _) g1
    refine Ev.step (fun k => by rw [bits_Div64.j2]) ?_
    simp only [if_neg (show ¬ Y / 4294967296 = 0 by omega)]
    have hqr := quot_rem (n := u * 4294967296 + v1) hY
    have hr0 := Int.emod_nonneg (u * 4294967296 + v1) (Int.ne_of_gt hY)
    have hr1 := Int.emod_lt_of_pos (u * 4294967296 + v1) hY
    have hd0 : 0 ≤ (u * 4294967296 + v1) / Y := Int.ediv_nonneg (by omega) (by omega)
    have hd1 : (u * 4294967296 + v1) / Y < 4294967296 := by rw [Int.ediv_lt_iff_lt_mul hY]; omega
    have e21 : IntKind.u64.wrap (IntKind.u64.wrap (IntKind.u64.wrap (u * 4294967296) + v1) - IntKind.u64.wrap ((u * 4294967296 + v1) / Y * Y)) = (u * 4294967296 + v1) % Y := by
      simp only [wrapu]
      generalize (u * 4294967296 + v1) / Y * Y = P at *
      generalize (u * 4294967296 + v1) % Y = Q at *
      omega
    rw [e21]
    generalize (u * 4294967296 + v1) % Y = u2 at *
    generalize (u * 4294967296 + v1) / Y = q1 at *
    rw [Int.tdiv_eq_ediv_of_nonneg hr0]
    have g2 := guess_first hYs hy1a.1 hy1a.2 hy0a.1 hy0a.2 hr0 hr1 v00.1 v00.2
    have gb2 := g2
    obtain ⟨_, _, gc2, gd2, ge2, gf2⟩ := gb2
    have hdm2 : 0 ≤ u2 / (Y / 4294967296) * (Y / 4294967296) ∧ u2 / (Y / 4294967296) * (Y / 4294967296) ≤ u2 := ⟨Int.mul_nonneg ge2 (by omega), by omega⟩
    rw [wrapu_id (n := u2 / (Y / 4294967296)) (by omega) (by omega), wrapu_id (n := u2 / (Y / 4294967296) * (Y / 4294967296)) (by omega) (by omega), wrapu_id (n := u2 - u2 / (Y / 4294967296) * (Y / 4294967296)) (by omega) (by omega)]
    have hfin := Div64_l1 (s := s) (by omega) hYs hy1a.1 hy1a.2 hy0a.1 hy0a.2 hr0 hr1 v00.1 v00.2 hd0 hd1 _ _ _ (Nat.le_refl _) g2
    rw [t1, t2] at hfin
    exact hfin
theorem times_ev {a b m : Int} (h0 : 0 < m) (h1 : m ≤ 4611686018427387904) : Ev (fun k => impl_times.f k a b m) (a * b % m) := by
  unfold impl_times.f
  have a0 := Int.emod_nonneg a (Int.ne_of_gt h0)
  have a1 := Int.emod_lt_of_pos a h0
  have b0 := Int.emod_nonneg b (Int.ne_of_gt h0)
  have b1 := Int.emod_lt_of_pos b h0
  simp only [mod_ev h0 h1, Option.bind_some]
  rw [wrapu_id (n := a % m) a0 (by omega), wrapu_id (n := b % m) b0 (by omega), wrapu_id (n := m) (by omega) (by omega)]
  simp only [Mul64_eq a0 (show a % m < 18446744073709551616 by omega) b0 (show b % m < 18446744073709551616 by omega), Option.bind_some, if_neg (Int.ne_of_gt h0)]
  have p0 : 0 ≤ a % m * (b % m) := Int.mul_nonneg a0 b0
  have hd0 : 0 ≤ a % m * (b % m) / 18446744073709551616 := Int.ediv_nonneg p0 (by decide)
  rw [Int.tmod_eq_emod_of_nonneg hd0]
  have r0 := Int.emod_nonneg (a % m * (b % m) / 18446744073709551616) (Int.ne_of_gt h0)
  have r1 := Int.emod_lt_of_pos (a % m * (b % m) / 18446744073709551616) h0
  have s0 := Int.emod_nonneg (a % m * (b % m)) (show (18446744073709551616 : Int) ≠ 0 by decide)
  have s1 := Int.emod_lt_of_pos (a % m * (b % m)) (show (0 : Int) < 18446744073709551616 by decide)
  rw [bnd (Div64_ev r0 r1 (by omega) s0 s1)]
  have e : (a % m * (b % m) / 18446744073709551616 % m * 18446744073709551616 + a % m * (b % m) % 18446744073709551616) % m = a * b % m := by
    rw [Int.add_emod, mul_emod_left, ← Int.add_emod]
    have : a % m * (b % m) / 18446744073709551616 * 18446744073709551616 + a % m * (b % m) % 18446744073709551616 = a % m * (b % m) := by
      have := Int.mul_ediv_add_emod (a % m * (b % m)) 18446744073709551616
      omega
    rw [this, ← Int.mul_emod]
  have t0 := Int.emod_nonneg (a * b) (Int.ne_of_gt h0)
  have t1 := Int.emod_lt_of_pos (a * b) h0
  refine ev_some ?_
  simp only
  rw [e, wrap_id (by omega) (by omega)]
theorem inverse_l {n m : Int} (hm : 0 < m) (hm' : m ≤ 1000000000000) : ∀ (k : Nat) (a b : Nat) (x y : Int), b ≤ k → Euc n m a b x y → (a : Int) ≤ 1000000000000 → (b : Int) ≤ 1000000000000 →
    ∃ r, Ev (fun k => impl_inverse.l0 k m a b x y) r ∧ 0 ≤ r ∧ r < m ∧ m ∣ r * n - 1 := by
  intro k
  induction k with
  | zero =>
    intro a b x y hb he ha1 hb1
    obtain rfl : b = 0 := by omega
    have hl := he.last
    have hbd := he.bounds
    refine ⟨x % m, ?_, Int.emod_nonneg _ (Int.ne_of_gt hm), Int.emod_lt_of_pos _ hm, ?_⟩
    · refine Ev.step (fun k => by rw [impl_inverse.l0]) ?_
      simp only [Int.natCast_zero, if_true, mod_ev hm (show m ≤ 4611686018427387904 by omega), Option.bind_some]
      exact Ev.now _
    · have h1 := dvd_emod_sub x m
      have h2 : x % m * n - 1 = (x % m - x) * n + (x * n - 1) := by rw [Int.sub_mul]; omega
      rw [h2]
      exact Int.dvd_add (Int.dvd_trans h1 (Int.dvd_mul_right _ _)) hl
  | succ k ih =>
    intro a b x y hb he ha1 hb1
    by_cases hz : b = 0
    · exact ih a b x y (by omega) he ha1 hb1
    · have hnx := he.next (by omega)
      obtain ⟨r, hr, h0, h1, h2⟩ := ih b (a % b) y (x - (a / b : Nat) * y) (by have := Nat.mod_lt a (show 0 < b by omega); omega) hnx hb1 (by have := Nat.mod_lt a (show 0 < b by omega); omega)
      refine ⟨r, ?_, h0, h1, h2⟩
      refine Ev.step (fun k => by rw [impl_inverse.l0]) ?_
      suffices hs : wrap64 (Int.tdiv (a : Int) b) = (a / b : Nat) ∧ wrap64 ((a : Int) - wrap64 ((a / b : Nat) * (b : Int))) = (a % b : Nat) ∧ wrap64 (x - wrap64 ((a / b : Nat) * y)) = x - (a / b : Nat) * y by
        simp only [if_neg (show ¬ (b : Int) = 0 by omega), hs.1, hs.2.1, hs.2.2]
        exact hr
      have hbd := he.bounds
      have hbd2 := hnx.bounds
      have eq : Int.tdiv (a : Int) b = (a / b : Nat) := by rw [Int.tdiv_eq_ediv_of_nonneg (by omega), Int.natCast_ediv]
      have hdm := Nat.div_add_mod a b
      have hle := Nat.div_le_self a b
      have hmod := Nat.mod_le a b
      have hprod : ((a / b : Nat) : Int) * b = a - (a % b : Nat) := by
        have : ((b * (a / b) + a % b : Nat) : Int) = (a : Int) := by rw [hdm]
        rw [Int.natCast_add, Int.natCast_mul, Int.mul_comm (b : Int)] at this
        omega
      rw [eq]
      exact euc_wraps hle hmod hprod (by omega) hm hm' hbd hbd2
theorem inverse_ev {p n : Int} (h : IsP p) {e : Nat} (he : e ≤ 14) (hn : ¬ p ∣ n) :
    ∃ r, Ev (fun k => impl_inverse.f k n (p ^ e)) r ∧ 0 ≤ r ∧ r < p ^ e ∧ p ^ e ∣ r * n - 1 := by
  have h0 := pow_pos' h e
  have h7 := pow_le_seven h (m := e) (n := 14) (by omega)
  have e14 : (7 : Int) ^ 14 = 678223072849 := by decide
  have hst := Euc.start (n := n) h0 (coprime_start h hn e)
  have hr0 := Int.emod_nonneg n (Int.ne_of_gt h0)
  have hr1 := Int.emod_lt_of_pos n h0
  obtain ⟨r, hr, a, b, c⟩ := inverse_l h0 (by omega) _ _ _ _ _ (Nat.le_refl _) hst (by omega) (by omega)
  refine ⟨r, ?_, a, b, c⟩
  unfold impl_inverse.f
  simp only [mod_ev h0 (show p ^ e ≤ 4611686018427387904 by omega), Option.bind_some]
  rw [Int.toNat_of_nonneg hr0, Int.toNat_of_nonneg (by omega)] at hr
  exact hr
theorem unit_ev {p x u : Int} (h : IsP p) (hx : x ≠ 0) (hu : x = p ^ vl p x * u) (h0 : -9223372036854775807 ≤ x) (h1 : x ≤ 9223372036854775807) : Ev (fun k => impl_unit.f k p x) u := by
  unfold impl_unit.f
  rw [bnd (valuation_ev h hx h0 h1), bnd (power_any h hx h0 h1)]
  have q1 : Int.tdiv x (p ^ vl p x) = u := by
    conv => lhs; arg 1; rw [hu]
    exact tdiv_mul_left (pow_ne' h _)
  have c1 := tdiv_bounds (n := x) (m := p ^ vl p x)
  rw [q1] at c1
  simp only [if_neg (pow_ne' h _), q1]
  exact ev_some (wrap_id (by omega) (by omega))
theorem ballAt_ev {p num den level x : Int} (h : IsP p) (l0 : -6 ≤ level) (l1 : level ≤ 6) (hden : den ≠ 0)
    (n0 : -4000000000000000000 ≤ num ∧ num ≤ 4000000000000000000) (d0 : -4000000000000000000 ≤ den ∧ den ≤ 4000000000000000000)
    (hx : p ^ ((level + 6).toNat + vl p den) ∣ x * den - num * p ^ 6) (hfit : num = 0 ∨ vl p den ≤ vl p num + 6) :
    Ev (fun k => impl_ballAt.f k p num den level) (level, ofMt p level x, (ofMd p level x : Int), true) := by
  unfold impl_ballAt.f
  simp only [isLevel_eq, Option.bind_some, show (-6 ≤ level ∧ level ≤ 6) from ⟨l0, l1⟩, and_self, decide_true, if_true]
  have b2 := vl_le_62 h hden (by omega) (by omega)
  rw [bnd (valuation_any h (by omega) (by omega)), bnd (valuation_ev h hden (by omega) (by omega))]
  by_cases hz : num = 0
  · obtain ⟨h1, h2⟩ := of_low h hden hx (.inl hz) l0
    simp only [if_pos hz]
    refine Ev.step (fun k => by rw [impl_ballAt.j0]) ?_
    simp only [if_true, h1, h2]
    exact Ev.now _
  · have b1 := vl_le_62 h hz (by omega) (by omega)
    have ev : vx p num = vl p num := by unfold vx; rw [if_neg hz]
    have e1 : wrap64 ((vl p num : Int) - vl p den) = (vl p num : Int) - vl p den := wrap_id (by omega) (by omega)
    simp only [if_neg hz, ev, e1]
    by_cases hlow : level ≤ (vl p num : Int) - vl p den
    · obtain ⟨h1, h2⟩ := of_low h hden hx (.inr (by omega)) l0
      simp only [show decide ((vl p num : Int) - vl p den ≥ level) = true from decide_eq_true hlow]
      refine Ev.step (fun k => by rw [impl_ballAt.j0]) ?_
      simp only [if_true, h1, h2]
      exact Ev.now _
    · have hfit' : vl p den ≤ vl p num + 6 := by rcases hfit with h1 | h1; exact absurd h1 hz; exact h1
      simp only [show decide ((vl p num : Int) - vl p den ≥ level) = false from decide_eq_false hlow]
      refine Ev.step (fun k => by rw [impl_ballAt.j0]) ?_
      rw [wrap_id (x := level + 6) (by omega) (by omega), wrap_id (x := (vl p num : Int) - vl p den + 6) (by omega) (by omega)]
      simp only [if_neg Bool.false_ne_true, if_neg (show ¬ (vl p num : Int) - vl p den < -6 by omega)]
      obtain ⟨un, hun, hund, _⟩ := vl_split h num hz
      obtain ⟨ud, hud, hudd, _⟩ := vl_split h den hden
      have h12 := pow_le_seven h (m := (level + 6).toNat) (n := 12) (by omega)
      have e12 : (7 : Int) ^ 12 = 13841287201 := by decide
      have hpp := pow_pos' h (level + 6).toNat
      obtain ⟨inv, hinv, _, _, hid⟩ := inverse_ev h (n := ud) (e := (level + 6).toNat) (by omega) hudd
      rw [bnd (power_ev h (by omega)), bnd (unit_ev h hz hun (by omega) (by omega)), bnd (unit_ev h hden hud (by omega) (by omega)), bnd hinv, bnd (times_ev hpp (by omega)),
        bnd (power_ev h (by omega)), bnd (times_ev hpp (by omega))]
      have y0 := Int.emod_nonneg (un * inv % p ^ (level + 6).toNat * p ^ ((vl p num : Int) - vl p den + 6).toNat) (Int.ne_of_gt hpp)
      have y1 := Int.emod_lt_of_pos (un * inv % p ^ (level + 6).toNat * p ^ ((vl p num : Int) - vl p den + 6).toNat) hpp
      rw [bnd (ofMark_ev h (by omega))]
      simp only [show (-6 ≤ level ∧ level ≤ 6) from ⟨l0, l1⟩, and_self, if_true]
      have hnear : p ^ (level + 6).toNat ∣ un * inv % p ^ (level + 6).toNat * p ^ ((vl p num : Int) - vl p den + 6).toNat % p ^ (level + 6).toNat - x := by
        have e2 : ((vl p num : Int) - vl p den + 6).toNat = vl p num + 6 - vl p den := by omega
        rw [e2, mul_emod_left]
        refine dvd_of_shift h hudd (b := vl p den) ?_
        obtain ⟨j, hj⟩ := dvd_emod_sub (un * inv * p ^ (vl p num + 6 - vl p den)) (p ^ (level + 6).toNat)
        obtain ⟨i, hi⟩ := hid
        generalize un * inv * p ^ (vl p num + 6 - vl p den) % p ^ (level + 6).toNat = X at *
        have e3 : (X - x) * (p ^ vl p den * ud) = (X * (p ^ vl p den * ud) - num * p ^ 6) - (x * den - num * p ^ 6) := by rw [← hud, Int.sub_mul]; omega
        rw [e3]
        refine Int.dvd_sub ⟨un * p ^ (vl p num + 6 - vl p den) * i + j * ud, ?_⟩ hx
        have e4 : X = un * inv * p ^ (vl p num + 6 - vl p den) + p ^ (level + 6).toNat * j := by omega
        have e5 : inv * ud = 1 + p ^ (level + 6).toNat * i := by omega
        have e6 : p ^ (vl p num + 6 - vl p den) * p ^ vl p den = p ^ (vl p num + 6) := by rw [← Int.pow_add]; congr 1; omega
        have e7 : num * p ^ 6 = p ^ (vl p num + 6) * un := by
          conv => lhs; arg 1; rw [hun]
          rw [Int.pow_add, Int.mul_assoc, Int.mul_comm un, ← Int.mul_assoc]
        have e8 : un * inv * p ^ (vl p num + 6 - vl p den) * (p ^ vl p den * ud) = p ^ (vl p num + 6) * un * (inv * ud) := by
          rw [← e6]; simp only [Int.mul_assoc, Int.mul_comm, Int.mul_left_comm]
        have e9 : p ^ (vl p num + 6) * un * (p ^ (level + 6).toNat * i) = p ^ ((level + 6).toNat + vl p den) * (un * p ^ (vl p num + 6 - vl p den) * i) := by
          rw [← e6, Int.pow_add p (level + 6).toNat]; simp only [Int.mul_assoc, Int.mul_comm, Int.mul_left_comm]
        have e10 : p ^ (level + 6).toNat * j * (p ^ vl p den * ud) = p ^ ((level + 6).toNat + vl p den) * (j * ud) := by
          rw [Int.pow_add p (level + 6).toNat]; simp only [Int.mul_assoc, Int.mul_comm, Int.mul_left_comm]
        rw [e4, Int.add_mul, e8, e5, Int.mul_add, Int.mul_one, e9, e10, e7, Int.mul_add]
        omega
      have hc := ofM_congr (p := p) (l := level) (emod_eq_of_dvd hnear)
      rw [hc.1, hc.2]
      exact Ev.now _
theorem ballAt_no {p num den level : Int} (h : IsP p) (l0 : -6 ≤ level) (l1 : level ≤ 6) (hden : den ≠ 0) (hnum : num ≠ 0)
    (n0 : -4000000000000000000 ≤ num ∧ num ≤ 4000000000000000000) (d0 : -4000000000000000000 ≤ den ∧ den ≤ 4000000000000000000) (hfit : vl p num + 6 < vl p den) :
    Ev (fun k => impl_ballAt.f k p num den level) (0, 0, 0, false) := by
  unfold impl_ballAt.f
  simp only [isLevel_eq, Option.bind_some, show (-6 ≤ level ∧ level ≤ 6) from ⟨l0, l1⟩, and_self, decide_true, if_true, if_neg hnum]
  have b1 := vl_le_62 h hnum (by omega) (by omega)
  have b2 := vl_le_62 h hden (by omega) (by omega)
  rw [bnd (valuation_ev h hnum (by omega) (by omega)), bnd (valuation_ev h hden (by omega) (by omega))]
  have e1 : wrap64 ((vl p num : Int) - vl p den) = (vl p num : Int) - vl p den := wrap_id (by omega) (by omega)
  simp only [e1, show decide ((vl p num : Int) - vl p den ≥ level) = false from decide_eq_false (by omega)]
  refine Ev.step (fun k => by rw [impl_ballAt.j0]) ?_
  simp only [if_neg Bool.false_ne_true, if_pos (show (vl p num : Int) - vl p den < -6 by omega)]
  exact Ev.now _
theorem ballAt_out {p num den level : Int} (hl : ¬ (-6 ≤ level ∧ level ≤ 6)) : Ev (fun k => impl_ballAt.f k p num den level) (0, 0, 0, false) := by
  unfold impl_ballAt.f
  simp only [isLevel_eq, Option.bind_some, hl, decide_false, if_neg Bool.false_ne_true]
  exact Ev.now _
/-- What both make of a fraction: nothing where it doesn't fit, and the ball that is near it else. -/
def AtIs (p num den level : Int) (r : Int × Int × Int × Bool) : Prop :=
  (-6 ≤ level ∧ level ≤ 6 ∧ (num = 0 ∨ vl p den ≤ vl p num + 6) ∧ ∃ x, p ^ ((level + 6).toNat + vl p den) ∣ x * den - num * p ^ 6 ∧ r = (level, ofMt p level x, (ofMd p level x : Int), true)) ∨
  (¬ (-6 ≤ level ∧ level ≤ 6 ∧ (num = 0 ∨ vl p den ≤ vl p num + 6)) ∧ r = (0, 0, 0, false))
theorem at_both {p num den level : Int} (h : IsP p) (hden : den ≠ 0)
    (n0 : -4000000000000000000 ≤ num ∧ num ≤ 4000000000000000000) (d0 : -4000000000000000000 ≤ den ∧ den ≤ 4000000000000000000) :
    ∃ r, Ev (fun k => spec_l01Of.f k p num den level) r ∧ Ev (fun k => impl_ballAt.f k p num den level) r ∧ AtIs p num den level r := by
  by_cases hl : -6 ≤ level ∧ level ≤ 6
  · by_cases hfit : num = 0 ∨ vl p den ≤ vl p num + 6
    · obtain ⟨x, hx⟩ := near_exists h hden hfit (level + 6).toNat
      exact ⟨_, l01Of_ev h hl.1 hl.2 hden n0 d0 hx hfit, ballAt_ev h hl.1 hl.2 hden n0 d0 hx hfit, .inl ⟨hl.1, hl.2, hfit, x, hx, rfl⟩⟩
    · have hnum : num ≠ 0 := fun e => hfit (.inl e)
      exact ⟨_, l01Of_no h hl.1 hl.2 hden hnum n0 d0 (by omega), ballAt_no h hl.1 hl.2 hden hnum n0 d0 (by omega), .inr ⟨fun hc => hfit hc.2.2, rfl⟩⟩
  · exact ⟨_, l01Of_out hl, ballAt_out hl, .inr ⟨fun hc => hl ⟨hc.1, hc.2.1⟩, rfl⟩⟩
def BallOfEndIs (p num den level : Int) (r : Int × Int × Int × Int) : Prop :=
  (¬ (IsP p ∧ EndOk num den) ∧ r = (0, 0, 0, 1)) ∨ (IsP p ∧ EndOk num den ∧ ¬ (-6 ≤ level ∧ level ≤ 6) ∧ r = (0, 0, 0, 2)) ∨
  (IsP p ∧ EndOk num den ∧ (-6 ≤ level ∧ level ≤ 6) ∧ den = 0 ∧ r = (0, 0, 0, 5)) ∨
  (IsP p ∧ EndOk num den ∧ (-6 ≤ level ∧ level ≤ 6) ∧ den ≠ 0 ∧ ∃ q, AtIs p num den level q ∧ r = fitR q)
theorem ballOfEnd_both (p num den level : Int) : ∃ r, Ev (fun k => spec_BallOfEnd.f k p num den level) r ∧ Ev (fun k => impl_BallOfEnd.f k p num den level) r ∧ BallOfEndIs p num den level r := by
  unfold spec_BallOfEnd.f impl_BallOfEnd.f
  simp only [l01Prime_eq, isPrime_eq, Option.bind_some]
  by_cases hp : IsP p
  · simp only [hp, decide_true, if_true]
    by_cases he : EndOk num den
    · have hgo : ∃ r, Ev (fun k => spec_BallOfEnd.j0 k p level false num den) r ∧ Ev (fun k => impl_BallOfEnd.j0 k p level false num den) r ∧ BallOfEndIs p num den level r := by
        by_cases hl : -6 ≤ level ∧ level ≤ 6
        · by_cases hz : den = 0
          · refine ⟨(0, 0, 0, 5), ?_, ?_, .inr (.inr (.inl ⟨hp, he, hl, hz, rfl⟩))⟩
            · refine Ev.step (fun k => by rw [spec_BallOfEnd.j0]) ?_
              simp only [if_neg Bool.false_ne_true, l01In_eq, Option.bind_some, hl, and_self, decide_true, if_true, if_pos hz]; exact Ev.now _
            · refine Ev.step (fun k => by rw [impl_BallOfEnd.j0]) ?_
              simp only [if_neg Bool.false_ne_true, isLevel_eq, Option.bind_some, hl, and_self, decide_true, if_true, if_pos hz]; exact Ev.now _
          · have hrg : (-1000000 ≤ num ∧ num ≤ 1000000) ∧ -1000000 ≤ den ∧ den ≤ 1000000 := by
              have := he; unfold EndOk at this; rw [if_neg hz] at this; omega
            obtain ⟨r, hr, hr', hi⟩ := at_both (num := num) (level := level) hp hz (by omega) (by omega)
            refine ⟨fitR r, ?_, ?_, .inr (.inr (.inr ⟨hp, he, hl, hz, r, hi, rfl⟩))⟩
            · refine Ev.step (fun k => by rw [spec_BallOfEnd.j0]) ?_
              simp only [if_neg Bool.false_ne_true, l01In_eq, Option.bind_some, hl, and_self, decide_true, if_true, if_neg hz]
              rw [bnd hr]
              unfold fitR
              by_cases h2 : r.2.2.2 = true
              · simp only [if_pos h2]; exact Ev.now _
              · simp only [if_neg h2]; exact Ev.now _
            · refine Ev.step (fun k => by rw [impl_BallOfEnd.j0]) ?_
              simp only [if_neg Bool.false_ne_true, isLevel_eq, Option.bind_some, hl, and_self, decide_true, if_true, if_neg hz]
              rw [bnd hr']
              simp only [fitted_eq, Option.bind_some]
              exact Ev.now _
        · refine ⟨(0, 0, 0, 2), ?_, ?_, .inr (.inl ⟨hp, he, hl, rfl⟩)⟩
          · refine Ev.step (fun k => by rw [spec_BallOfEnd.j0]) ?_
            simp only [if_neg Bool.false_ne_true, l01In_eq, Option.bind_some, hl, decide_false]; exact Ev.now _
          · refine Ev.step (fun k => by rw [impl_BallOfEnd.j0]) ?_
            simp only [if_neg Bool.false_ne_true, isLevel_eq, Option.bind_some, hl, decide_false]; exact Ev.now _
      obtain ⟨r, h1, h2, h3⟩ := hgo
      refine ⟨r, ?_, ?_, h3⟩
      · rw [bnd l01End_ev]; simp only [he, decide_true, Bool.not_true]; exact h1
      · rw [bnd IsEnd_ev]; simp only [he, decide_true, Bool.not_true]; exact h2
    · refine ⟨(0, 0, 0, 1), ?_, ?_, .inl ⟨fun hc => he hc.2, rfl⟩⟩
      · rw [bnd l01End_ev]; simp only [he, decide_false, Bool.not_false]
        refine Ev.step (fun k => by rw [spec_BallOfEnd.j0]) ?_
        simp only [if_true]; exact Ev.now _
      · rw [bnd IsEnd_ev]; simp only [he, decide_false, Bool.not_false]
        refine Ev.step (fun k => by rw [impl_BallOfEnd.j0]) ?_
        simp only [if_true]; exact Ev.now _
  · simp only [hp, decide_false, if_neg Bool.false_ne_true]
    refine ⟨(0, 0, 0, 1), ?_, ?_, .inl ⟨fun hc => hp hc.1, rfl⟩⟩
    · refine Ev.step (fun k => by rw [spec_BallOfEnd.j0]) ?_
      simp only [if_true]; exact Ev.now _
    · refine Ev.step (fun k => by rw [impl_BallOfEnd.j0]) ?_
      simp only [if_true]; exact Ev.now _
def FnExactBallOfEndPure : Prop := ∀ (a0 : Int) (a1_0 : Int) (a1_1 : Int) (a2 : Int), (Lit.int .i64 a0).wf = true → (Lit.int .i64 a1_0).wf = true → (Lit.int .i64 a1_1).wf = true → (Lit.int .i64 a2).wf = true → ∃ k, laws_FnExactBallOfEnd.f k a0 a1_0 a1_1 a2 = some true
theorem FnExactBallOfEnd : FnExactBallOfEndPure := by
  intro a0 a1 a2 a3 w0 w1 w2 w3
  refine Ev.rounds (g := fun k => laws_FnExactBallOfEnd.f k a0 a1 a2 a3) ?_
  unfold laws_FnExactBallOfEnd.f
  simp only [laws_toEnd.f, Option.bind_some]
  obtain ⟨r, h1, h2, _⟩ := ballOfEnd_both a0 a1 a2 a3
  rw [bnd h1, bnd h2]
  simp only [laws_eqBall.f, if_true, Option.bind_some]
  exact Ev.now _

end Go.Proofs.Ytbjdnagmjponbaa.Pure

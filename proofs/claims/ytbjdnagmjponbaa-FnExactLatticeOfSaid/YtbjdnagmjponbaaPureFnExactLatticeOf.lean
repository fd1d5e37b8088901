/- LatticeOf and the reference's LatticeOf answer the same for every prime and every two columns. No condition. -/
import Derived.Test.YtbjdnagmjponbaaPFnExactLatticeOfx4
import Derived.Test.YtbjdnagmjponbaaMath
namespace Go.Proofs.Ytbjdnagmjponbaa.Pure
open Go.RowKit Go.Proofs.Ytbjdnagmjponbaa.PFnExactLatticeOf Go.Proofs.YtbjdnagmjponbaaW.PrintWords Go.Proofs.YtbjdnagmjponbaaW.PrintLast Go.Proofs.YtbjdnagmjponbaaW.PrintMore Go.Proofs.Ytbjdnagmjponbaa.Math
set_option linter.unusedVariables false
set_option linter.unusedSimpArgs false
theorem isPrime_eq (p : Int) : impl_isPrime.f p = some (decide (IsP p)) := by
  unfold impl_isPrime.f IsP
  by_cases h2 : p = 2
  · subst h2; rfl
  by_cases h3 : p = 3
  · subst h3; rfl
  by_cases h5 : p = 5
  · subst h5; rfl
  by_cases h7 : p = 7
  · subst h7; rfl
  simp [h2, h3, h5, h7]
theorem l01Prime_eq (p : Int) : spec_l01Prime.f p = some (decide (IsP p)) := by
  unfold spec_l01Prime.f IsP
  by_cases h2 : p = 2
  · subst h2; rfl
  by_cases h3 : p = 3
  · subst h3; rfl
  by_cases h5 : p = 5
  · subst h5; rfl
  by_cases h7 : p = 7
  · subst h7; rfl
  simp [h2, h3, h5, h7]
theorem l01In_eq (n a b : Int) : spec_l01In.f n a b = some (decide (a ≤ n ∧ n ≤ b)) := by
  unfold spec_l01In.f
  by_cases h : n ≥ a
  · rw [if_pos h]; simp [h]
  · rw [if_neg h]; simp; omega
theorem power_l {p : Int} (h : IsP p) (n : Nat) (hn : p ^ n ≤ 9223372036854775807) (hn' : n ≤ 1000) : ∀ d i, i + d = n → Ev (fun k => impl_power.l0 k p (p ^ i) n i) (p ^ n) := by
  intro d
  induction d with
  | zero =>
    intro i hi
    obtain rfl : i = n := by omega
    refine Ev.step (fun k => by rw [impl_power.l0]) ?_
    simp only [if_neg (Int.lt_irrefl _)]
    exact Ev.now _
  | succ d ih =>
    intro i hi
    refine Ev.step (fun k => by rw [impl_power.l0]) ?_
    have h1 : (i : Int) < n := by omega
    have h2 := pow_pos' h (i + 1)
    have h3 := pow_mono h (m := i + 1) (n := n) (by omega)
    have e1 : wrap64 (p ^ i * p) = p ^ (i + 1) := by rw [← show p ^ (i + 1) = p ^ i * p from Int.pow_succ p i]; exact wrap_id (by omega) (by omega)
    have e2 : wrap64 ((i : Int) + 1) = ((i + 1 : Nat) : Int) := by rw [wrap_id (by omega) (by omega)]; omega
    simp only [if_pos h1, e1, e2]
    exact ih (i + 1) (by omega)
theorem power_big {p : Int} (h : IsP p) {n : Nat} (hn : p ^ n ≤ 9223372036854775807) (hn' : n ≤ 1000) : Ev (fun k => impl_power.f k p n) (p ^ n) := by
  unfold impl_power.f
  have := power_l h n hn hn' n 0 (by omega)
  rw [Int.pow_zero] at this
  exact this
theorem power_ev {p : Int} (h : IsP p) {n : Int} (hn : n ≤ 22) : Ev (fun k => impl_power.f k p n) (p ^ n.toNat) := by
  by_cases h0 : 0 ≤ n
  · have := power_big h (n := n.toNat) (by have := pow_le_22 h (n := n.toNat) (by omega); omega) (by omega)
    rw [Int.toNat_of_nonneg h0] at this
    exact this
  · unfold impl_power.f
    refine Ev.step (fun k => by rw [impl_power.l0]) ?_
    have e : n.toNat = 0 := by omega
    simp only [if_neg (show ¬ (0 : Int) < n by omega), e, Int.pow_zero]
    exact Ev.now _
/-- The power that lies in a number. -/
theorem power_any {p x : Int} (h : IsP p) (hx : x ≠ 0) (h0 : -9223372036854775807 ≤ x) (h1 : x ≤ 9223372036854775807) : Ev (fun k => impl_power.f k p (vl p x)) (p ^ vl p x) :=
  power_big h (by have := pow_vl_le h hx; omega) (by have := vl_le_62 h hx h0 h1; omega)
theorem l01Power_l {p : Int} (h : IsP p) : ∀ (d : Nat) (i : Nat), p ^ (i + d) ≤ 9223372036854775807 → i + d ≤ 1000 → Ev (fun k => spec_l01Power.l0 k p d (p ^ i)) (p ^ (i + d)) := by
  intro d
  induction d with
  | zero =>
    intro i _ _
    refine Ev.step (fun k => by rw [spec_l01Power.l0]) ?_
    simp only [if_neg (show ¬ ((0 : Nat) : Int) > 0 by omega)]
    exact Ev.now _
  | succ d ih =>
    intro i hi hi'
    refine Ev.step (fun k => by rw [spec_l01Power.l0]) ?_
    have h2 := pow_pos' h (i + 1)
    have h3 := pow_mono h (m := i + 1) (n := i + (d + 1)) (by omega)
    have e1 : wrap64 (p ^ i * p) = p ^ (i + 1) := by rw [← show p ^ (i + 1) = p ^ i * p from Int.pow_succ p i]; exact wrap_id (by omega) (by omega)
    have e2 : wrap64 (((d + 1 : Nat) : Int) - 1) = (d : Int) := by rw [wrap_id (by omega) (by omega)]; omega
    simp only [if_pos (show ((d + 1 : Nat) : Int) > 0 by omega), e1, e2]
    have e3 : i + (d + 1) = i + 1 + d := by omega
    rw [e3] at hi ⊢
    exact ih (i + 1) hi (by omega)
theorem l01Power_big {p : Int} (h : IsP p) {n : Nat} (hn : p ^ n ≤ 9223372036854775807) (hn' : n ≤ 1000) : Ev (fun k => spec_l01Power.f k p n) (p ^ n) := by
  unfold spec_l01Power.f
  have := l01Power_l h n 0 (by rw [Nat.zero_add]; exact hn) (by omega)
  rw [Int.pow_zero, Nat.zero_add] at this
  exact this
theorem l01Power_ev {p : Int} (h : IsP p) {n : Int} (hn : n ≤ 22) : Ev (fun k => spec_l01Power.f k p n) (p ^ n.toNat) := by
  by_cases h0 : 0 ≤ n
  · have := l01Power_big h (n := n.toNat) (by have := pow_le_22 h (n := n.toNat) (by omega); omega) (by omega)
    rw [Int.toNat_of_nonneg h0] at this
    exact this
  · unfold spec_l01Power.f
    refine Ev.step (fun k => by rw [spec_l01Power.l0]) ?_
    have e : n.toNat = 0 := by omega
    simp only [if_neg (show ¬ n > 0 by omega), e, Int.pow_zero]
    exact Ev.now _
theorem l01Power_any {p x : Int} (h : IsP p) (hx : x ≠ 0) (h0 : -9223372036854775807 ≤ x) (h1 : x ≤ 9223372036854775807) : Ev (fun k => spec_l01Power.f k p (vl p x)) (p ^ vl p x) :=
  l01Power_big h (by have := pow_vl_le h hx; omega) (by have := vl_le_62 h hx h0 h1; omega)
theorem valuation_l {p : Int} (h : IsP p) : ∀ (v : Nat) (u : Int) (n : Int), ¬ p ∣ u → -9223372036854775807 ≤ p ^ v * u → p ^ v * u ≤ 9223372036854775807 → 0 ≤ n → n + v ≤ 1000 → Ev (fun k => impl_valuation.l0 k p (p ^ v * u) n) (n + v) := by
  intro v
  induction v with
  | zero =>
    intro u n hu h0 h1 hn hv
    refine Ev.step (fun k => by rw [impl_valuation.l0]) ?_
    have hne : ¬ Int.tmod (p ^ 0 * u) p = 0 := fun e => by
      rw [tmod_zero_iff, Int.pow_zero, Int.one_mul] at e; exact hu e
    simp only [if_neg h.ne, if_neg hne]
    exact ev_some (by simp)
  | succ v ih =>
    intro u n hu h0 h1 hn hv
    refine Ev.step (fun k => by rw [impl_valuation.l0]) ?_
    have e0 : p ^ (v + 1) * u = p * (p ^ v * u) := by rw [Int.pow_succ, Int.mul_comm (p ^ v) p, Int.mul_assoc]
    have hd : Int.tmod (p ^ (v + 1) * u) p = 0 := by rw [tmod_zero_iff, e0]; exact Int.dvd_mul_right _ _
    have e1 : Int.tdiv (p ^ (v + 1) * u) p = p ^ v * u := by rw [e0]; exact tdiv_mul_left h.ne
    have hb := tdiv_bounds (n := p ^ (v + 1) * u) (m := p)
    rw [e1] at hb
    have e2 : wrap64 (p ^ v * u) = p ^ v * u := wrap_id (by omega) (by omega)
    have e3 : wrap64 (n + 1) = n + 1 := wrap_id (by omega) (by omega)
    simp only [if_neg h.ne, if_pos hd, e1, e2, e3]
    exact ev_eq (ih u (n + 1) hu (by omega) (by omega) (by omega) (by omega)) (by omega)
theorem valuation_ev {p : Int} (h : IsP p) {x : Int} (hx : x ≠ 0) (h0 : -9223372036854775807 ≤ x) (h1 : x ≤ 9223372036854775807) : Ev (fun k => impl_valuation.f k p x) (vl p x) := by
  unfold impl_valuation.f
  simp only [if_neg hx]
  obtain ⟨u, hu, hnd, _⟩ := vl_split h x hx
  have hv := vl_le_62 h hx h0 h1
  have := valuation_l h (vl p x) u 0 hnd (by omega) (by omega) (by omega) (by omega)
  rw [← hu, Int.zero_add] at this
  exact this
theorem valuation_zero (k : Nat) (p : Int) : impl_valuation.f k p 0 = some 1000 := by unfold impl_valuation.f; rw [if_pos rfl]
theorem valuation_zero_ev (p : Int) : Ev (fun k => impl_valuation.f k p 0) 1000 := ⟨0, fun k _ => valuation_zero k p⟩
/-- Of every number: 1000 for 0. -/
def vx (p x : Int) : Int := if x = 0 then 1000 else vl p x
theorem valuation_any {p : Int} (h : IsP p) {x : Int} (h0 : -9223372036854775807 ≤ x) (h1 : x ≤ 9223372036854775807) : Ev (fun k => impl_valuation.f k p x) (vx p x) := by
  unfold vx
  by_cases hx : x = 0
  · subst hx; rw [if_pos rfl]; exact valuation_zero_ev p
  · rw [if_neg hx]; exact valuation_ev h hx h0 h1
theorem l01Val_l {p : Int} (h : IsP p) : ∀ (v : Nat) (u : Int) (n : Int), ¬ p ∣ u → -9223372036854775807 ≤ p ^ v * u → p ^ v * u ≤ 9223372036854775807 → 0 ≤ n → n + v ≤ 1000 → Ev (fun k => spec_l01Val.l0 k p (p ^ v * u) n) (n + v) := by
  intro v
  induction v with
  | zero =>
    intro u n hu h0 h1 hn hv
    refine Ev.step (fun k => by rw [spec_l01Val.l0]) ?_
    have hne : ¬ Int.tmod (p ^ 0 * u) p = 0 := fun e => by
      rw [tmod_zero_iff, Int.pow_zero, Int.one_mul] at e; exact hu e
    simp only [if_neg h.ne, if_neg hne]
    exact ev_some (by simp)
  | succ v ih =>
    intro u n hu h0 h1 hn hv
    refine Ev.step (fun k => by rw [spec_l01Val.l0]) ?_
    have e0 : p ^ (v + 1) * u = p * (p ^ v * u) := by rw [Int.pow_succ, Int.mul_comm (p ^ v) p, Int.mul_assoc]
    have hd : Int.tmod (p ^ (v + 1) * u) p = 0 := by rw [tmod_zero_iff, e0]; exact Int.dvd_mul_right _ _
    have e1 : Int.tdiv (p ^ (v + 1) * u) p = p ^ v * u := by rw [e0]; exact tdiv_mul_left h.ne
    have hb := tdiv_bounds (n := p ^ (v + 1) * u) (m := p)
    rw [e1] at hb
    have e2 : wrap64 (p ^ v * u) = p ^ v * u := wrap_id (by omega) (by omega)
    have e3 : wrap64 (n + 1) = n + 1 := wrap_id (by omega) (by omega)
    simp only [if_neg h.ne, if_pos hd, e1, e2, e3]
    exact ev_eq (ih u (n + 1) hu (by omega) (by omega) (by omega) (by omega)) (by omega)
theorem l01Val_ev {p : Int} (h : IsP p) {x : Int} (hx : x ≠ 0) (h0 : -9223372036854775807 ≤ x) (h1 : x ≤ 9223372036854775807) : Ev (fun k => spec_l01Val.f k p x) (vl p x) := by
  unfold spec_l01Val.f
  obtain ⟨u, hu, hnd, _⟩ := vl_split h x hx
  have hv := vl_le_62 h hx h0 h1
  have := l01Val_l h (vl p x) u 0 hnd (by omega) (by omega) (by omega) (by omega)
  rw [← hu, Int.zero_add] at this
  exact this
theorem mod_ev {n m : Int} (hm : 0 < m) (hm' : m ≤ 4611686018427387904) : impl_mod.f n m = some (n % m) := by
  unfold impl_mod.f
  have hb := mod_between (n := n) hm
  rw [if_neg (show ¬ m = 0 by omega), wrap_id (by omega) (by omega), mod_eq hm]
theorem rd_at (pre : List Int) (b : Int) (ys : List Int) : rd (pre ++ b :: ys) (pre.length : Int) = b := by
  unfold rd
  simp [List.getD_eq_getElem?_getD]
theorem within_l {m : Int} (h0 : 0 ≤ m) (h1 : m ≤ 9223372036854775807) : ∀ (ys pre : List Int), (pre ++ ys).length ≤ 1000 → Ev (fun k => impl_within.l0 k m (pre ++ ys) ((pre ++ ys).length : Int) pre.length) (decide (∀ b ∈ ys, -m ≤ b ∧ b ≤ m)) := by
  intro ys
  induction ys with
  | nil =>
    intro pre _
    refine Ev.step (fun k => by rw [impl_within.l0]) ?_
    simp only [List.append_nil, if_neg (Int.lt_irrefl _)]
    exact ev_some (by simp)
  | cons b ys ih =>
    intro pre hl
    refine Ev.step (fun k => by rw [impl_within.l0]) ?_
    have hl' : (pre ++ b :: ys).length = pre.length + (ys.length + 1) := by simp
    have hlt : (pre.length : Int) < ((pre ++ b :: ys).length : Int) := by omega
    have em : wrap64 (-m) = -m := wrap_id (by omega) (by omega)
    simp only [if_pos hlt, if_pos (show (0 : Int) ≤ (pre.length : Int) by omega), rd_at, em]
    by_cases h2 : b < -m
    · simp only [if_pos h2]
      refine ev_some ?_
      symm
      rw [decide_eq_false_iff_not]
      intro hall
      have := hall b (by simp)
      omega
    · simp only [if_neg h2]
      by_cases h3 : b > m
      · simp only [if_pos h3]
        refine ev_some ?_
        symm
        rw [decide_eq_false_iff_not]
        intro hall
        have := hall b (by simp)
        omega
      · simp only [if_neg h3]
        have e : wrap64 ((pre.length : Int) + 1) = ((pre ++ [b]).length : Int) := by rw [wrap_id (by omega) (by omega)]; simp
        have := ih (pre ++ [b]) (by simpa using hl)
        rw [e]
        simp only [List.append_assoc, List.singleton_append] at this
        refine ev_eq this ?_
        have : (∀ c ∈ b :: ys, -m ≤ c ∧ c ≤ m) ↔ (∀ c ∈ ys, -m ≤ c ∧ c ≤ m) := by simp; omega
        simp only [this]
theorem within4 {m a b c d : Int} (h0 : 0 ≤ m) (h1 : m ≤ 9223372036854775807) : Ev (fun k => impl_within.f k m [a, b, c, d]) (decide ((-m ≤ a ∧ a ≤ m) ∧ (-m ≤ b ∧ b ≤ m) ∧ (-m ≤ c ∧ c ≤ m) ∧ -m ≤ d ∧ d ≤ m)) := by
  unfold impl_within.f
  refine ev_eq (within_l h0 h1 _ [] (by simp)) ?_
  simp
theorem l03Vals_ev {p x : Int} (hp : IsP p) (h0 : -9223372036854775807 ≤ x) (h1 : x ≤ 9223372036854775807) : Ev (fun k => spec_l03Vals.f k p x) (if x = 0 then 100 else (vl p x : Int)) := by
  unfold spec_l03Vals.f
  by_cases hx : x = 0
  · simp only [if_pos hx]; exact Ev.now _
  · simp only [if_neg hx]
    rw [bnd (l01Val_ev hp hx h0 h1)]
    exact Ev.now _
theorem l01MulMod_eq {a b m : Int} (h0 : 0 < m) (h1 : m ≤ 100000000000) : spec_l01MulMod.f a b m = some (a * b % m) := by
  unfold spec_l01MulMod.f
  have ha := mod_between (n := a) h0
  have hb := mod_between (n := b) h0
  have ea : wrap64 (Int.tmod a m + m) = Int.tmod a m + m := wrap_id (by omega) (by omega)
  have eb : wrap64 (Int.tmod b m + m) = Int.tmod b m + m := wrap_id (by omega) (by omega)
  have a0 := Int.emod_nonneg a (Int.ne_of_gt h0)
  have a1 := Int.emod_lt_of_pos a h0
  have b0 := Int.emod_nonneg b (Int.ne_of_gt h0)
  have b1 := Int.emod_lt_of_pos b h0
  rw [if_neg (Int.ne_of_gt h0)]
  simp only [ea, eb, mod_eq h0]
  rw [Int.tmod_eq_emod_of_nonneg b0, Int.tdiv_eq_ediv_of_nonneg b0]
  have hq0 : 0 ≤ b % m / 1000000 := by omega
  have hq1 : b % m / 1000000 ≤ 100000 := by omega
  have hr0 : 0 ≤ b % m % 1000000 := by omega
  have hr1 : b % m % 1000000 ≤ 1000000 := by omega
  have eq : wrap64 (b % m / 1000000) = b % m / 1000000 := wrap_id (by omega) (by omega)
  rw [eq]
  have p1 : 0 ≤ a % m * (b % m / 1000000) := Int.mul_nonneg a0 hq0
  have p2 : a % m * (b % m / 1000000) ≤ 100000000000 * 100000 := Int.mul_le_mul (by omega) hq1 hq0 (by omega)
  have p3 : 0 ≤ a % m * (b % m % 1000000) := Int.mul_nonneg a0 hr0
  have p4 : a % m * (b % m % 1000000) ≤ 100000000000 * 1000000 := Int.mul_le_mul (by omega) hr1 hr0 (by omega)
  rw [wrap_id (x := a % m * (b % m / 1000000)) (by omega) (by omega), wrap_id (x := a % m * (b % m % 1000000)) (by omega) (by omega)]
  rw [Int.tmod_eq_emod_of_nonneg p1, Int.tmod_eq_emod_of_nonneg p3]
  have c0 := Int.emod_nonneg (a % m * (b % m / 1000000)) (Int.ne_of_gt h0)
  have c1 := Int.emod_lt_of_pos (a % m * (b % m / 1000000)) h0
  have d0 := Int.emod_nonneg (a % m * (b % m % 1000000)) (Int.ne_of_gt h0)
  have d1 := Int.emod_lt_of_pos (a % m * (b % m % 1000000)) h0
  rw [wrap_id (x := a % m * (b % m / 1000000) % m * 1000000) (by omega) (by omega)]
  have e0 : 0 ≤ a % m * (b % m / 1000000) % m * 1000000 := by omega
  rw [Int.tmod_eq_emod_of_nonneg e0]
  have f0 := Int.emod_nonneg (a % m * (b % m / 1000000) % m * 1000000) (Int.ne_of_gt h0)
  have f1 := Int.emod_lt_of_pos (a % m * (b % m / 1000000) % m * 1000000) h0
  rw [wrap_id (by omega) (by omega), Int.tmod_eq_emod_of_nonneg (by omega), mulmod_eq]
theorem l01InvMod_l {n m : Int} (hm : 0 < m) (hm' : m ≤ 1000000000000) : ∀ (k : Nat) (a b : Nat) (x y : Int), b ≤ k → Euc n m a b x y → (a : Int) ≤ 1000000000000 → (b : Int) ≤ 1000000000000 →
    ∃ r, Ev (fun k => spec_l01InvMod.l0 k m a b x y) r ∧ 0 ≤ r ∧ r < m ∧ m ∣ r * n - 1 := by
  intro k
  induction k with
  | zero =>
    intro a b x y hb he ha1 hb1
    obtain rfl : b = 0 := by omega
    have hl := he.last
    have hbd := he.bounds
    refine ⟨x % m, ?_, Int.emod_nonneg _ (Int.ne_of_gt hm), Int.emod_lt_of_pos _ hm, ?_⟩
    · refine Ev.step (fun k => by rw [spec_l01InvMod.l0]) ?_
      have hx := mod_between (n := x) hm
      rw [wrap_id (x := Int.tmod x m + m) (by omega) (by omega), mod_eq hm]
      simp only [Int.natCast_zero, if_true, if_neg (Int.ne_of_gt hm)]
      exact Ev.now _
    · have h1 := dvd_emod_sub x m
      have h2 : x % m * n - 1 = (x % m - x) * n + (x * n - 1) := by rw [Int.sub_mul]; omega
      rw [h2]
      exact Int.dvd_add (Int.dvd_trans h1 (Int.dvd_mul_right _ _)) hl
  | succ k ih =>
    intro a b x y hb he ha1 hb1
    by_cases hz : b = 0
    · exact ih a b x y (by omega) he ha1 hb1
    · have hnx := he.next (by omega)
      obtain ⟨r, hr, h0, h1, h2⟩ := ih b (a % b) y (x - (a / b : Nat) * y) (by have := Nat.mod_lt a (show 0 < b by omega); omega) hnx hb1 (by have := Nat.mod_lt a (show 0 < b by omega); omega)
      refine ⟨r, ?_, h0, h1, h2⟩
      refine Ev.step (fun k => by rw [spec_l01InvMod.l0]) ?_
      suffices hs : wrap64 (Int.tdiv (a : Int) b) = (a / b : Nat) ∧ wrap64 ((a : Int) - wrap64 ((a / b : Nat) * (b : Int))) = (a % b : Nat) ∧ wrap64 (x - wrap64 ((a / b : Nat) * y)) = x - (a / b : Nat) * y by
        simp only [if_neg (show ¬ (b : Int) = 0 by omega), hs.1, hs.2.1, hs.2.2]
        exact hr
      have hbd := he.bounds
      have hbd2 := hnx.bounds
      have hbz : ¬ (b : Int) = 0 := by omega
      have eq : Int.tdiv (a : Int) b = (a / b : Nat) := by rw [Int.tdiv_eq_ediv_of_nonneg (by omega), Int.natCast_ediv]
      have hdm := Nat.div_add_mod a b
      have hle := Nat.div_le_self a b
      have hmod := Nat.mod_le a b
      have hprod : ((a / b : Nat) : Int) * b = a - (a % b : Nat) := by
        have : ((b * (a / b) + a % b : Nat) : Int) = (a : Int) := by rw [hdm]
        rw [Int.natCast_add, Int.natCast_mul, Int.mul_comm (b : Int)] at this
        omega
      rw [eq]
      exact euc_wraps hle hmod hprod (by omega) hm hm' hbd hbd2
theorem l01InvMod_ev {p n : Int} (h : IsP p) {e : Nat} (he : e ≤ 14) (hn : ¬ p ∣ n) :
    ∃ r, Ev (fun k => spec_l01InvMod.f k n (p ^ e)) r ∧ 0 ≤ r ∧ r < p ^ e ∧ p ^ e ∣ r * n - 1 := by
  have h0 := pow_pos' h e
  have h7 := pow_le_seven h (m := e) (n := 14) (by omega)
  have e14 : (7 : Int) ^ 14 = 678223072849 := by decide
  have hb := mod_between (n := n) h0
  have hst := Euc.start (n := n) h0 (coprime_start h hn e)
  have hr0 := Int.emod_nonneg n (Int.ne_of_gt h0)
  have hr1 := Int.emod_lt_of_pos n h0
  obtain ⟨r, hr, a, b, c⟩ := l01InvMod_l h0 (by omega) _ _ _ _ _ (Nat.le_refl _) hst (by omega) (by omega)
  refine ⟨r, ?_, a, b, c⟩
  unfold spec_l01InvMod.f
  simp only [if_neg (Int.ne_of_gt h0)]
  rw [wrap_id (x := Int.tmod n (p ^ e) + p ^ e) (by omega) (by omega), mod_eq h0]
  rw [Int.toNat_of_nonneg hr0, Int.toNat_of_nonneg (by omega)] at hr
  exact hr
set_option maxRecDepth 100000 in
theorem len8_dec : ∀ n : Fin 256, 1 ≤ n.val → 1 ≤ (bt (⟨#[0, 1, 2, 2, 3, 3, 3, 3, 4, 4, 4, 4, 4, 4, 4, 4, 5, 5, 5, 5, 5, 5, 5, 5, 5, 5, 5, 5, 5, 5, 5, 5, 6, 6, 6, 6, 6, 6, 6, 6, 6, 6, 6, 6, 6, 6, 6, 6, 6, 6, 6, 6, 6, 6, 6, 6, 6, 6, 6, 6, 6, 6, 6, 6, 7, 7, 7, 7, 7, 7, 7, 7, 7, 7, 7, 7, 7, 7, 7, 7, 7, 7, 7, 7, 7, 7, 7, 7, 7, 7, 7, 7, 7, 7, 7, 7, 7, 7, 7, 7, 7, 7, 7, 7, 7, 7, 7, 7, 7, 7, 7, 7, 7, 7, 7, 7, 7, 7, 7, 7, 7, 7, 7, 7, 7, 7, 7, 7, 8, 8, 8, 8, 8, 8, 8, 8, 8, 8, 8, 8, 8, 8, 8, 8, 8, 8, 8, 8, 8, 8, 8, 8, 8, 8, 8, 8, 8, 8, 8, 8, 8, 8, 8, 8, 8, 8, 8, 8, 8, 8, 8, 8, 8, 8, 8, 8, 8, 8, 8, 8, 8, 8, 8, 8, 8, 8, 8, 8, 8, 8, 8, 8, 8, 8, 8, 8, 8, 8, 8, 8, 8, 8, 8, 8, 8, 8, 8, 8, 8, 8, 8, 8, 8, 8, 8, 8, 8, 8, 8, 8, 8, 8, 8, 8, 8, 8, 8, 8, 8, 8, 8, 8, 8, 8, 8, 8, 8, 8, 8, 8, 8, 8, 8, 8, 8, 8, 8, 8, 8, 8, 8, 8, 8, 8, 8, 8]⟩ : ByteArray) (n.val : Int)).toNat ∧ 0 ≤ bt (⟨#[0, 1, 2, 2, 3, 3, 3, 3, 4, 4, 4, 4, 4, 4, 4, 4, 5, 5, 5, 5, 5, 5, 5, 5, 5, 5, 5, 5, 5, 5, 5, 5, 6, 6, 6, 6, 6, 6, 6, 6, 6, 6, 6, 6, 6, 6, 6, 6, 6, 6, 6, 6, 6, 6, 6, 6, 6, 6, 6, 6, 6, 6, 6, 6, 7, 7, 7, 7, 7, 7, 7, 7, 7, 7, 7, 7, 7, 7, 7, 7, 7, 7, 7, 7, 7, 7, 7, 7, 7, 7, 7, 7, 7, 7, 7, 7, 7, 7, 7, 7, 7, 7, 7, 7, 7, 7, 7, 7, 7, 7, 7, 7, 7, 7, 7, 7, 7, 7, 7, 7, 7, 7, 7, 7, 7, 7, 7, 7, 8, 8, 8, 8, 8, 8, 8, 8, 8, 8, 8, 8, 8, 8, 8, 8, 8, 8, 8, 8, 8, 8, 8, 8, 8, 8, 8, 8, 8, 8, 8, 8, 8, 8, 8, 8, 8, 8, 8, 8, 8, 8, 8, 8, 8, 8, 8, 8, 8, 8, 8, 8, 8, 8, 8, 8, 8, 8, 8, 8, 8, 8, 8, 8, 8, 8, 8, 8, 8, 8, 8, 8, 8, 8, 8, 8, 8, 8, 8, 8, 8, 8, 8, 8, 8, 8, 8, 8, 8, 8, 8, 8, 8, 8, 8, 8, 8, 8, 8, 8, 8, 8, 8, 8, 8, 8, 8, 8, 8, 8, 8, 8, 8, 8, 8, 8, 8, 8, 8, 8, 8, 8, 8, 8, 8, 8, 8, 8]⟩ : ByteArray) (n.val : Int) ∧ (bt (⟨#[0, 1, 2, 2, 3, 3, 3, 3, 4, 4, 4, 4, 4, 4, 4, 4, 5, 5, 5, 5, 5, 5, 5, 5, 5, 5, 5, 5, 5, 5, 5, 5, 6, 6, 6, 6, 6, 6, 6, 6, 6, 6, 6, 6, 6, 6, 6, 6, 6, 6, 6, 6, 6, 6, 6, 6, 6, 6, 6, 6, 6, 6, 6, 6, 7, 7, 7, 7, 7, 7, 7, 7, 7, 7, 7, 7, 7, 7, 7, 7, 7, 7, 7, 7, 7, 7, 7, 7, 7, 7, 7, 7, 7, 7, 7, 7, 7, 7, 7, 7, 7, 7, 7, 7, 7, 7, 7, 7, 7, 7, 7, 7, 7, 7, 7, 7, 7, 7, 7, 7, 7, 7, 7, 7, 7, 7, 7, 7, 8, 8, 8, 8, 8, 8, 8, 8, 8, 8, 8, 8, 8, 8, 8, 8, 8, 8, 8, 8, 8, 8, 8, 8, 8, 8, 8, 8, 8, 8, 8, 8, 8, 8, 8, 8, 8, 8, 8, 8, 8, 8, 8, 8, 8, 8, 8, 8, 8, 8, 8, 8, 8, 8, 8, 8, 8, 8, 8, 8, 8, 8, 8, 8, 8, 8, 8, 8, 8, 8, 8, 8, 8, 8, 8, 8, 8, 8, 8, 8, 8, 8, 8, 8, 8, 8, 8, 8, 8, 8, 8, 8, 8, 8, 8, 8, 8, 8, 8, 8, 8, 8, 8, 8, 8, 8, 8, 8, 8, 8, 8, 8, 8, 8, 8, 8, 8, 8, 8, 8, 8, 8, 8, 8, 8, 8, 8, 8]⟩ : ByteArray) (n.val : Int)).toNat ≤ 8 ∧
    2 ^ ((bt (⟨#[0, 1, 2, 2, 3, 3, 3, 3, 4, 4, 4, 4, 4, 4, 4, 4, 5, 5, 5, 5, 5, 5, 5, 5, 5, 5, 5, 5, 5, 5, 5, 5, 6, 6, 6, 6, 6, 6, 6, 6, 6, 6, 6, 6, 6, 6, 6, 6, 6, 6, 6, 6, 6, 6, 6, 6, 6, 6, 6, 6, 6, 6, 6, 6, 7, 7, 7, 7, 7, 7, 7, 7, 7, 7, 7, 7, 7, 7, 7, 7, 7, 7, 7, 7, 7, 7, 7, 7, 7, 7, 7, 7, 7, 7, 7, 7, 7, 7, 7, 7, 7, 7, 7, 7, 7, 7, 7, 7, 7, 7, 7, 7, 7, 7, 7, 7, 7, 7, 7, 7, 7, 7, 7, 7, 7, 7, 7, 7, 8, 8, 8, 8, 8, 8, 8, 8, 8, 8, 8, 8, 8, 8, 8, 8, 8, 8, 8, 8, 8, 8, 8, 8, 8, 8, 8, 8, 8, 8, 8, 8, 8, 8, 8, 8, 8, 8, 8, 8, 8, 8, 8, 8, 8, 8, 8, 8, 8, 8, 8, 8, 8, 8, 8, 8, 8, 8, 8, 8, 8, 8, 8, 8, 8, 8, 8, 8, 8, 8, 8, 8, 8, 8, 8, 8, 8, 8, 8, 8, 8, 8, 8, 8, 8, 8, 8, 8, 8, 8, 8, 8, 8, 8, 8, 8, 8, 8, 8, 8, 8, 8, 8, 8, 8, 8, 8, 8, 8, 8, 8, 8, 8, 8, 8, 8, 8, 8, 8, 8, 8, 8, 8, 8, 8, 8, 8, 8]⟩ : ByteArray) (n.val : Int)).toNat - 1) ≤ n.val ∧ n.val < 2 ^ (bt (⟨#[0, 1, 2, 2, 3, 3, 3, 3, 4, 4, 4, 4, 4, 4, 4, 4, 5, 5, 5, 5, 5, 5, 5, 5, 5, 5, 5, 5, 5, 5, 5, 5, 6, 6, 6, 6, 6, 6, 6, 6, 6, 6, 6, 6, 6, 6, 6, 6, 6, 6, 6, 6, 6, 6, 6, 6, 6, 6, 6, 6, 6, 6, 6, 6, 7, 7, 7, 7, 7, 7, 7, 7, 7, 7, 7, 7, 7, 7, 7, 7, 7, 7, 7, 7, 7, 7, 7, 7, 7, 7, 7, 7, 7, 7, 7, 7, 7, 7, 7, 7, 7, 7, 7, 7, 7, 7, 7, 7, 7, 7, 7, 7, 7, 7, 7, 7, 7, 7, 7, 7, 7, 7, 7, 7, 7, 7, 7, 7, 8, 8, 8, 8, 8, 8, 8, 8, 8, 8, 8, 8, 8, 8, 8, 8, 8, 8, 8, 8, 8, 8, 8, 8, 8, 8, 8, 8, 8, 8, 8, 8, 8, 8, 8, 8, 8, 8, 8, 8, 8, 8, 8, 8, 8, 8, 8, 8, 8, 8, 8, 8, 8, 8, 8, 8, 8, 8, 8, 8, 8, 8, 8, 8, 8, 8, 8, 8, 8, 8, 8, 8, 8, 8, 8, 8, 8, 8, 8, 8, 8, 8, 8, 8, 8, 8, 8, 8, 8, 8, 8, 8, 8, 8, 8, 8, 8, 8, 8, 8, 8, 8, 8, 8, 8, 8, 8, 8, 8, 8, 8, 8, 8, 8, 8, 8, 8, 8, 8, 8, 8, 8, 8, 8, 8, 8, 8, 8]⟩ : ByteArray) (n.val : Int)).toNat := by decide +kernel
set_option maxRecDepth 100000 in
theorem len8_tab {i : Int} (h0 : 1 ≤ i) (h1 : i < 256) : ∃ l : Nat, bt (⟨#[0, 1, 2, 2, 3, 3, 3, 3, 4, 4, 4, 4, 4, 4, 4, 4, 5, 5, 5, 5, 5, 5, 5, 5, 5, 5, 5, 5, 5, 5, 5, 5, 6, 6, 6, 6, 6, 6, 6, 6, 6, 6, 6, 6, 6, 6, 6, 6, 6, 6, 6, 6, 6, 6, 6, 6, 6, 6, 6, 6, 6, 6, 6, 6, 7, 7, 7, 7, 7, 7, 7, 7, 7, 7, 7, 7, 7, 7, 7, 7, 7, 7, 7, 7, 7, 7, 7, 7, 7, 7, 7, 7, 7, 7, 7, 7, 7, 7, 7, 7, 7, 7, 7, 7, 7, 7, 7, 7, 7, 7, 7, 7, 7, 7, 7, 7, 7, 7, 7, 7, 7, 7, 7, 7, 7, 7, 7, 7, 8, 8, 8, 8, 8, 8, 8, 8, 8, 8, 8, 8, 8, 8, 8, 8, 8, 8, 8, 8, 8, 8, 8, 8, 8, 8, 8, 8, 8, 8, 8, 8, 8, 8, 8, 8, 8, 8, 8, 8, 8, 8, 8, 8, 8, 8, 8, 8, 8, 8, 8, 8, 8, 8, 8, 8, 8, 8, 8, 8, 8, 8, 8, 8, 8, 8, 8, 8, 8, 8, 8, 8, 8, 8, 8, 8, 8, 8, 8, 8, 8, 8, 8, 8, 8, 8, 8, 8, 8, 8, 8, 8, 8, 8, 8, 8, 8, 8, 8, 8, 8, 8, 8, 8, 8, 8, 8, 8, 8, 8, 8, 8, 8, 8, 8, 8, 8, 8, 8, 8, 8, 8, 8, 8, 8, 8, 8, 8]⟩ : ByteArray) i = l ∧ IsLen i l ∧ l ≤ 8 := by
  obtain ⟨n, rfl⟩ := Int.eq_ofNat_of_zero_le (show 0 ≤ i by omega)
  have h := len8_dec ⟨n, by omega⟩ (by simp only; omega)
  simp only at h
  refine ⟨_, (Int.toNat_of_nonneg h.2.1).symm, ⟨h.1, ?_, ?_⟩, h.2.2.1⟩
  · have := h.2.2.2.1
    exact_mod_cast this
  · have := h.2.2.2.2
    exact_mod_cast this
set_option maxRecDepth 100000 in
theorem Len64_j {x n : Int} (h0 : 1 ≤ x) (h1 : x < 4294967296) (hn : 0 ≤ n ∧ n ≤ 32) : ∃ l : Nat, Ev (fun k => bits_Len64.j0 k x n) (n + l) ∧ IsLen x l ∧ l ≤ 32 := by
  by_cases h16 : x ≥ 65536
  · by_cases h8 : x / 65536 ≥ 256
    · have e : x / 65536 / 256 % 256 = x / 65536 / 256 := by omega
      obtain ⟨l, hl, hi, hb⟩ := len8_tab (i := x / 65536 / 256) (by omega) (by omega)
      refine ⟨24 + l, ?_, ?_, by omega⟩
      · refine Ev.step (fun k => by rw [bits_Len64.j0]) ?_
        simp only [if_pos h16, if_pos h8, e, if_pos (show 0 ≤ x / 65536 / 256 by omega), if_pos (show x / 65536 / 256 < 256 by omega), hl]
        rw [wrap_id (x := n + 16) (by omega) (by omega), wrap_id (x := n + 16 + 8) (by omega) (by omega), wrap_id (x := (l : Int)) (by omega) (by omega), wrap_id (by omega) (by omega)]
        exact ev_some (by omega)
      · have e2 : x / 2 ^ 24 = x / 65536 / 256 := by omega
        refine IsLen.up 24 ?_
        rw [e2]; exact hi
    · have e : x / 65536 % 256 = x / 65536 := by omega
      obtain ⟨l, hl, hi, hb⟩ := len8_tab (i := x / 65536) (by omega) (by omega)
      refine ⟨16 + l, ?_, ?_, by omega⟩
      · refine Ev.step (fun k => by rw [bits_Len64.j0]) ?_
        simp only [if_pos h16, if_neg h8, e, if_pos (show 0 ≤ x / 65536 by omega), if_pos (show x / 65536 < 256 by omega), hl]
        rw [wrap_id (x := n + 16) (by omega) (by omega), wrap_id (x := (l : Int)) (by omega) (by omega), wrap_id (by omega) (by omega)]
        exact ev_some (by omega)
      · refine IsLen.up 16 ?_
        exact hi
  · by_cases h8 : x ≥ 256
    · have e : x / 256 % 256 = x / 256 := by omega
      obtain ⟨l, hl, hi, hb⟩ := len8_tab (i := x / 256) (by omega) (by omega)
      refine ⟨8 + l, ?_, ?_, by omega⟩
      · refine Ev.step (fun k => by rw [bits_Len64.j0]) ?_
        simp only [if_neg h16, if_pos h8, e, if_pos (show 0 ≤ x / 256 by omega), if_pos (show x / 256 < 256 by omega), hl]
        rw [wrap_id (x := n + 8) (by omega) (by omega), wrap_id (x := (l : Int)) (by omega) (by omega), wrap_id (by omega) (by omega)]
        exact ev_some (by omega)
      · refine IsLen.up 8 ?_
        exact hi
    · have e : x % 256 = x := by omega
      obtain ⟨l, hl, hi, hb⟩ := len8_tab (i := x) (by omega) (by omega)
      refine ⟨l, ?_, hi, by omega⟩
      refine Ev.step (fun k => by rw [bits_Len64.j0]) ?_
      simp only [if_neg h16, if_neg h8, e, if_pos (show 0 ≤ x by omega), if_pos (show x < 256 by omega), hl]
      rw [wrap_id (x := (l : Int)) (by omega) (by omega), wrap_id (by omega) (by omega)]
      exact Ev.now _
theorem Len64_ev {x : Int} (h0 : 1 ≤ x) (h1 : x < 18446744073709551616) : ∃ l : Nat, Ev (fun k => bits_Len64.f k x) l ∧ IsLen x l ∧ l ≤ 64 := by
  unfold bits_Len64.f
  by_cases h32 : x ≥ 4294967296
  · obtain ⟨l, hl, hi, hb⟩ := Len64_j (x := x / 4294967296) (n := 32) (by omega) (by omega) (by omega)
    refine ⟨32 + l, ?_, IsLen.up 32 hi, by omega⟩
    simp only [if_pos h32]
    exact ev_eq hl (by omega)
  · obtain ⟨l, hl, hi, hb⟩ := Len64_j (x := x) (n := 0) (by omega) (by omega) (by omega)
    refine ⟨l, ?_, hi, by omega⟩
    simp only [if_neg h32]
    exact ev_eq hl (by omega)
theorem Mul64_eq {a b : Int} (a0 : 0 ≤ a) (a1 : a < 18446744073709551616) (b0 : 0 ≤ b) (b1 : b < 18446744073709551616) : bits_Mul64.f a b = some (a * b / 18446744073709551616, a * b % 18446744073709551616) := by
  unfold bits_Mul64.f
  rw [u64_mask32 a0 a1, u64_mask32 b0 b1]
  have hah : 0 ≤ a / 4294967296 ∧ a / 4294967296 ≤ 4294967295 := by omega
  have hal : 0 ≤ a % 4294967296 ∧ a % 4294967296 ≤ 4294967295 := by omega
  have hbh : 0 ≤ b / 4294967296 ∧ b / 4294967296 ≤ 4294967295 := by omega
  have hbl : 0 ≤ b % 4294967296 ∧ b % 4294967296 ≤ 4294967295 := by omega
  have hab : a * b = (a / 4294967296) * (b / 4294967296) * 18446744073709551616 + ((a / 4294967296) * (b % 4294967296) + (a % 4294967296) * (b / 4294967296)) * 4294967296 + (a % 4294967296) * (b % 4294967296) := by
    have ea : a = 4294967296 * (a / 4294967296) + a % 4294967296 := by omega
    have eb : b = 4294967296 * (b / 4294967296) + b % 4294967296 := by omega
    generalize a / 4294967296 = x1 at *
    generalize a % 4294967296 = x0 at *
    generalize b / 4294967296 = y1 at *
    generalize b % 4294967296 = y0 at *
    rw [ea, eb]
    simp only [Int.add_mul, Int.mul_add]
    have e1 : 4294967296 * x1 * (4294967296 * y1) = x1 * y1 * 18446744073709551616 := by
      rw [show (18446744073709551616 : Int) = 4294967296 * 4294967296 by decide]
      simp only [Int.mul_assoc, Int.mul_comm, Int.mul_left_comm]
    have e2 : 4294967296 * x1 * y0 = x1 * y0 * 4294967296 := by rw [Int.mul_assoc, Int.mul_comm]
    have e3 : x0 * (4294967296 * y1) = x0 * y1 * 4294967296 := by rw [Int.mul_left_comm, Int.mul_comm]
    rw [e1, e2, e3]
    omega
  have bound : ∀ {x y : Int}, 0 ≤ x ∧ x ≤ 4294967295 → 0 ≤ y ∧ y ≤ 4294967295 → 0 ≤ x * y ∧ x * y ≤ 18446744065119617025 := by
    intro x y hx hy
    have a := Int.mul_le_mul hx.2 hy.2 hy.1 (by omega)
    exact ⟨Int.mul_nonneg hx.1 hy.1, by omega⟩
  have p11 := bound hah hbh
  have p10 := bound hah hbl
  have p01 := bound hal hbh
  have p00 := bound hal hbl
  generalize (a / 4294967296) * (b / 4294967296) = q11 at *
  generalize (a / 4294967296) * (b % 4294967296) = q10 at *
  generalize (a % 4294967296) * (b / 4294967296) = q01 at *
  generalize (a % 4294967296) * (b % 4294967296) = q00 at *
  rw [hab]
  have w1 : IntKind.u64.wrap q11 = q11 := wrapu_id (by omega) (by omega)
  have w2 : IntKind.u64.wrap q10 = q10 := wrapu_id (by omega) (by omega)
  have w3 : IntKind.u64.wrap q01 = q01 := wrapu_id (by omega) (by omega)
  have w4 : IntKind.u64.wrap q00 = q00 := wrapu_id (by omega) (by omega)
  rw [w1, w2, w3, w4]
  have w5 : IntKind.u64.wrap (q10 + q00 / 4294967296) = q10 + q00 / 4294967296 := wrapu_id (by omega) (by omega)
  rw [w5, u64_mask32 (by omega) (by omega)]
  have w6 : IntKind.u64.wrap ((q10 + q00 / 4294967296) % 4294967296 + q01) = (q10 + q00 / 4294967296) % 4294967296 + q01 := wrapu_id (by omega) (by omega)
  have w7 : IntKind.u64.wrap (q11 + (q10 + q00 / 4294967296) / 4294967296) = q11 + (q10 + q00 / 4294967296) / 4294967296 := wrapu_id (by omega) (by omega)
  rw [w6, w7, wrapu, wrapu]
  congr 2
  omega
theorem Div64_l0 {Y s y1 y0 u v w : Int} {R : Int × Int} (hy : Y = y1 * 4294967296 + y0) (hy1 : 2147483648 ≤ y1) (hy1' : y1 < 4294967296) (hy0 : 0 ≤ y0) (hy0' : y0 < 4294967296) (huY : u < Y) (hv : 0 ≤ v) (hv' : v < 4294967296)
    (hend : Ev (fun k => bits_Div64.j2 k Y s y1 y0 u v w ((u * 4294967296 + v) / Y)) R) : ∀ (n : Nat) (q r : Int), (4294967296 - r).toNat ≤ n → Guess Y y1 u (u * 4294967296 + v) q r → Ev (fun k => bits_Div64.l0 k Y s y1 y0 u v w q r) R := by
  have hY : 0 < Y := by omega
  intro n
  induction n with
  | zero => intro q r hn hg; obtain ⟨_, _, h3, h4, _⟩ := hg; omega
  | succ n ih =>
    intro q r hn hg
    have hg' := hg
    obtain ⟨g1, g2, g3, g4, g5, g6⟩ := hg'
    have go : ∀ b : Bool, (b = true ↔ 4294967296 ≤ q ∨ 4294967296 * r + v < q * y0) → Ev (fun k => bits_Div64.j1 k Y s y1 y0 u v w q r b) R := by
      intro b hb
      refine Ev.step (fun k => by rw [bits_Div64.j1]) ?_
      by_cases hc : 4294967296 ≤ q ∨ 4294967296 * r + v < q * y0
      · obtain ⟨d1, d2, d3⟩ := guess_down hy hY huY hv hv' hg hc
        rw [wrapu_id (n := r + y1) (by omega) (by omega), wrapu_id (n := q - 1) (by omega) (by omega)]
        simp only [hb.2 hc, if_true]
        by_cases hr : r + y1 ≥ 4294967296
        · simp only [if_pos hr]
          have hstop : q - 1 = (u * 4294967296 + v) / Y := by
            have h3 : q - 1 ≤ (u * 4294967296 + v) / Y := by
              rw [Int.le_ediv_iff_mul_le hY, hy, Int.mul_add, ← Int.mul_assoc]
              have h4 : (q - 1) * y0 ≤ 4294967296 * 4294967295 := Int.mul_le_mul (by omega) (by omega) hy0 (by omega)
              omega
            omega
          rw [hstop]; exact hend
        · simp only [if_neg hr]
          exact ih (q - 1) (r + y1) (by omega) ⟨d2, d1, by omega, by omega, by omega, by omega⟩
      · have hbf : b = false := by cases b with
          | true => exact absurd (hb.1 rfl) hc
          | false => rfl
        simp only [hbf, if_neg Bool.false_ne_true]
        have := guess_stop hy hY hg (by omega)
        rw [this]; exact hend
    refine Ev.step (fun k => by rw [bits_Div64.l0]) ?_
    by_cases hq : q ≥ 4294967296
    · simp only [if_pos hq]
      exact go _ (by simp; omega)
    · simp only [if_neg hq]
      have hqy : 0 ≤ q * y0 ∧ q * y0 ≤ 4294967295 * 4294967295 := ⟨Int.mul_nonneg g5 hy0, Int.mul_le_mul (by omega) (by omega) hy0 (by omega)⟩
      rw [wrapu_id (n := q * y0) (by omega) (by omega), wrapu_id (n := 4294967296 * r) (by omega) (by omega), wrapu_id (n := 4294967296 * r + v) (by omega) (by omega)]
      exact go _ (by simp; omega)
theorem Div64_l1 {Y y1 y0 u v q1 : Int} {s : Nat} (hs : s ≤ 64) (hy : Y = y1 * 4294967296 + y0) (hy1 : 2147483648 ≤ y1) (hy1' : y1 < 4294967296) (hy0 : 0 ≤ y0) (hy0' : y0 < 4294967296) (hu : 0 ≤ u) (huY : u < Y) (hv : 0 ≤ v) (hv' : v < 4294967296)
    (hq1 : 0 ≤ q1) (hq1' : q1 < 4294967296) : ∀ (n : Nat) (q r : Int), (4294967296 - r).toNat ≤ n → Guess Y y1 u (u * 4294967296 + v) q r →
    Ev (fun k => bits_Div64.l1 k Y s y1 y0 v q1 r u q) (q1 * 4294967296 + (u * 4294967296 + v) / Y, (u * 4294967296 + v) % Y / 2 ^ s) := by
  have hY : 0 < Y := by omega
  have hlast : ∀ q : Int, q = (u * 4294967296 + v) / Y → IntKind.u64.wrap (IntKind.u64.wrap (q1 * 4294967296) + q) = q1 * 4294967296 + (u * 4294967296 + v) / Y ∧
      shr .u64 (IntKind.u64.wrap (IntKind.u64.wrap (IntKind.u64.wrap (u * 4294967296) + v) - IntKind.u64.wrap (q * Y))) s = (u * 4294967296 + v) % Y / 2 ^ s := by
    intro q hq
    have hqr := quot_rem (n := u * 4294967296 + v) hY
    have hr0 := Int.emod_nonneg (u * 4294967296 + v) (Int.ne_of_gt hY)
    have hr1 := Int.emod_lt_of_pos (u * 4294967296 + v) hY
    have hq0 : 0 ≤ (u * 4294967296 + v) / Y := Int.ediv_nonneg (by omega) (by omega)
    have hqlt : (u * 4294967296 + v) / Y < 4294967296 := by rw [Int.ediv_lt_iff_lt_mul hY]; omega
    rw [shr_u64 hs]
    constructor
    · rw [wrapu_id (n := q1 * 4294967296) (by omega) (by omega), wrapu_id (by omega) (by omega), hq]
    · congr 1
      rw [hq]
      simp only [wrapu]
      generalize (u * 4294967296 + v) / Y * Y = P at *
      generalize (u * 4294967296 + v) % Y = Q at *
      omega
  intro n
  induction n with
  | zero => intro q r hn hg; obtain ⟨_, _, h3, h4, _⟩ := hg; omega
  | succ n ih =>
    intro q r hn hg
    have hg' := hg
    obtain ⟨g1, g2, g3, g4, g5, g6⟩ := hg'
    have hs0 : (0 : Int) ≤ (s : Int) := Int.natCast_nonneg s
    have go : ∀ b : Bool, (b = true ↔ 4294967296 ≤ q ∨ 4294967296 * r + v < q * y0) → Ev (fun k => bits_Div64.j4 k Y s y1 y0 v q1 r u q b) (q1 * 4294967296 + (u * 4294967296 + v) / Y, (u * 4294967296 + v) % Y / 2 ^ s) := by
      intro b hb
      refine Ev.step (fun k => by rw [bits_Div64.j4]) ?_
      by_cases hc : 4294967296 ≤ q ∨ 4294967296 * r + v < q * y0
      · obtain ⟨d1, d2, d3⟩ := guess_down hy hY huY hv hv' hg hc
        rw [wrapu_id (n := r + y1) (by omega) (by omega), wrapu_id (n := q - 1) (by omega) (by omega)]
        simp only [hb.2 hc, if_true]
        by_cases hr : r + y1 ≥ 4294967296
        · simp only [if_pos hr, if_pos hs0]
          have hstop : q - 1 = (u * 4294967296 + v) / Y := by
            have h3 : q - 1 ≤ (u * 4294967296 + v) / Y := by
              rw [Int.le_ediv_iff_mul_le hY, hy, Int.mul_add, ← Int.mul_assoc]
              have h4 : (q - 1) * y0 ≤ 4294967296 * 4294967295 := Int.mul_le_mul (by omega) (by omega) hy0 (by omega)
              omega
            omega
          obtain ⟨l1, l2⟩ := hlast (q - 1) hstop
          rw [l1, l2]
          exact Ev.now _
        · simp only [if_neg hr]
          exact ih (q - 1) (r + y1) (by omega) ⟨d2, d1, by omega, by omega, by omega, by omega⟩
      · have hbf : b = false := by cases b with
          | true => exact absurd (hb.1 rfl) hc
          | false => rfl
        simp only [hbf, if_neg Bool.false_ne_true, if_pos hs0]
        have hstop := guess_stop hy hY hg (by omega)
        obtain ⟨l1, l2⟩ := hlast q hstop
        rw [l1, l2]
        exact Ev.now _
    refine Ev.step (fun k => by rw [bits_Div64.l1]) ?_
    by_cases hq : q ≥ 4294967296
    · simp only [if_pos hq]
      exact go _ (by simp; omega)
    · simp only [if_neg hq]
      have hqy : 0 ≤ q * y0 ∧ q * y0 ≤ 4294967295 * 4294967295 := ⟨Int.mul_nonneg g5 hy0, Int.mul_le_mul (by omega) (by omega) hy0 (by omega)⟩
      rw [wrapu_id (n := q * y0) (by omega) (by omega), wrapu_id (n := 4294967296 * r) (by omega) (by omega), wrapu_id (n := 4294967296 * r + v) (by omega) (by omega)]
      exact go _ (by simp; omega)
theorem Div64_ev {hi lo y : Int} (h0 : 0 ≤ hi) (h1 : hi < y) (hy : y < 18446744073709551616) (l0 : 0 ≤ lo) (l1 : lo < 18446744073709551616) :
    Ev (fun k => bits_Div64.f k hi lo y) ((hi * 18446744073709551616 + lo) / y, (hi * 18446744073709551616 + lo) % y) := by
  unfold bits_Div64.f
  simp only [if_neg (show ¬ y = 0 by omega), if_neg (show ¬ y ≤ hi by omega)]
  by_cases hz : hi = 0
  · simp only [if_pos hz]
    refine ev_some ?_
    rw [hz, Int.zero_mul, Int.zero_add, Int.tdiv_eq_ediv_of_nonneg l0, Int.tmod_eq_emod_of_nonneg l0, wrapu_id (Int.ediv_nonneg l0 (by omega))]
    have := Int.ediv_le_self y l0
    omega
  · obtain ⟨L, hL, ⟨i1, i2, i3⟩, hL64⟩ := Len64_ev (x := y) (by omega) hy
    have hlz : Ev (fun k => bits_LeadingZeros64.f k y) ((64 - L : Nat) : Int) := by
      unfold bits_LeadingZeros64.f
      rw [bnd hL]
      exact ev_some (by rw [wrap_id (by omega) (by omega)]; omega)
    simp only [if_neg hz]
    rw [bnd hlz]
    generalize hs : 64 - L = s
    have hs64 : s ≤ 63 := by omega
    have eL : L = 64 - s := by omega
    subst eL
    have w1 : IntKind.u64.wrap ((s : Nat) : Int) = s := wrapu_id (by omega) (by omega)
    have w2 : IntKind.u64.wrap (64 - (s : Int)) = ((64 - s : Nat) : Int) := by rw [wrapu_id (by omega) (by omega)]; omega
    simp only [w1, w2]
    rw [shl_u64 (x := y) (by omega), shl_u64 (x := hi) (by omega), shl_u64 (x := lo) (by omega), shr_u64 (x := lo) (s := 64 - s) (by omega)]
    have hS := two_pow_pos' s
    have hT := two_pow_pos' (64 - s)
    have hST : (2 : Int) ^ (64 - s) * 2 ^ s = 18446744073709551616 := by
      rw [← Int.pow_add]
      have : 64 - s + s = 64 := by omega
      rw [this]; decide
    have hST1 : (2 : Int) ^ (64 - s - 1) * 2 ^ s = 9223372036854775808 := by
      rw [← Int.pow_add]
      have : 64 - s - 1 + s = 63 := by omega
      rw [this]; decide
    have hY1 : y * 2 ^ s < 18446744073709551616 := by rw [← hST]; exact Int.mul_lt_mul_of_pos_right i3 hS
    have hY0 : 9223372036854775808 ≤ y * 2 ^ s := by rw [← hST1]; exact Int.mul_le_mul_of_nonneg_right i2 (Int.le_of_lt hS)
    have hH0 : 0 ≤ hi * 2 ^ s := Int.mul_nonneg h0 (Int.le_of_lt hS)
    have hH1 : hi * 2 ^ s + 2 ^ s ≤ y * 2 ^ s := by
      have := Int.mul_le_mul_of_nonneg_right (show hi + 1 ≤ y by omega) (Int.le_of_lt hS)
      rw [Int.add_mul, Int.one_mul] at this
      exact this
    have eY : y * 2 ^ s % 18446744073709551616 = y * 2 ^ s := Int.emod_eq_of_lt (by omega) hY1
    have eH : hi * 2 ^ s % 18446744073709551616 = hi * 2 ^ s := Int.emod_eq_of_lt hH0 (by omega)
    have hq0 : 0 ≤ lo / 2 ^ (64 - s) := Int.ediv_nonneg l0 (Int.le_of_lt hT)
    have hq1 : lo / 2 ^ (64 - s) < 2 ^ s := by
      rw [Int.ediv_lt_iff_lt_mul hT, Int.mul_comm, hST]; exact l1
    rw [eY, eH, or_u64 (s := s) (by omega) hH0 (Int.dvd_mul_left _ _) (by omega) hq0 hq1 (by omega)]
    rw [u64_mask32 (x := y * 2 ^ s) (by omega) hY1]
    have hlo := Int.emod_nonneg (lo * 2 ^ s) (show (18446744073709551616 : Int) ≠ 0 by decide)
    have hlo1 := Int.emod_lt_of_pos (lo * 2 ^ s) (show (0 : Int) < 18446744073709551616 by decide)
    rw [u64_mask32 (x := lo * 2 ^ s % 18446744073709551616) hlo hlo1]
    have hV : (hi * 18446744073709551616 + lo) * 2 ^ s = (hi * 2 ^ s + lo / 2 ^ (64 - s)) * 18446744073709551616 + lo * 2 ^ s % 18446744073709551616 := by
      have a1 : lo * 2 ^ s / 18446744073709551616 = lo / 2 ^ (64 - s) := by
        rw [← hST]; exact Int.mul_ediv_mul_of_pos_left lo _ hS
      have a2 := Int.mul_ediv_add_emod (lo * 2 ^ s) 18446744073709551616
      rw [a1] at a2
      rw [Int.add_mul, Int.add_mul, Int.mul_right_comm]
      omega
    have hw : lo * 2 ^ s % 18446744073709551616 = lo * 2 ^ s % 18446744073709551616 / 4294967296 * 4294967296 + lo * 2 ^ s % 18446744073709551616 % 4294967296 := by omega
    obtain ⟨t1, t2⟩ := two_digits hS (show 0 < y by omega) hV hw
    have v10 : 0 ≤ lo * 2 ^ s % 18446744073709551616 / 4294967296 ∧ lo * 2 ^ s % 18446744073709551616 / 4294967296 < 4294967296 := by omega
    have v00 : 0 ≤ lo * 2 ^ s % 18446744073709551616 % 4294967296 ∧ lo * 2 ^ s % 18446744073709551616 % 4294967296 < 4294967296 := by omega
    have u0 : 0 ≤ hi * 2 ^ s + lo / 2 ^ (64 - s) ∧ hi * 2 ^ s + lo / 2 ^ (64 - s) < y * 2 ^ s := by omega
    generalize lo * 2 ^ s % 18446744073709551616 / 4294967296 = v1 at *
    generalize lo * 2 ^ s % 18446744073709551616 % 4294967296 = v0 at *
    generalize hi * 2 ^ s + lo / 2 ^ (64 - s) = u at *
    generalize hYY : y * 2 ^ s = Y at *
    have hy1a : 2147483648 ≤ Y / 4294967296 ∧ Y / 4294967296 < 4294967296 := by omega
    have hy0a : 0 ≤ Y % 4294967296 ∧ Y % 4294967296 < 4294967296 := by omega
    have hYs : Y = Y / 4294967296 * 4294967296 + Y % 4294967296 := by omega
    have hY : 0 < Y := by omega
    simp only [if_pos (show (0 : Int) ≤ (s : Int) by omega), if_pos (show (0 : Int) ≤ ((64 - s : Nat) : Int) by omega), if_neg (show ¬ Y / 4294967296 = 0 by omega)]
    rw [Int.tdiv_eq_ediv_of_nonneg u0.1]
    have g1 := guess_first hYs hy1a.1 hy1a.2 hy0a.1 hy0a.2 u0.1 u0.2 v10.1 v10.2
    have hdm : 0 ≤ u / (Y / 4294967296) * (Y / 4294967296) ∧ u / (Y / 4294967296) * (Y / 4294967296) ≤ u := by
      obtain ⟨ga, _, gc, _, ge, _⟩ := g1
      exact ⟨Int.mul_nonneg ge (by omega), by omega⟩
    have gb := g1
    obtain ⟨_, _, gc, gd, ge, gf⟩ := gb
    rw [wrapu_id (n := u / (Y / 4294967296)) (by omega) (by omega), wrapu_id (n := u / (Y / 4294967296) * (Y / 4294967296)) (by omega) (by omega), wrapu_id (n := u - u / (Y / 4294967296) * (Y / 4294967296)) (by omega) (by omega)]
    refine Div64_l0 hYs hy1a.1 hy1a.2 hy0a.1 hy0a.2 u0.2 v10.1 v10.2 ?_ _ _ _ (Nat.le_refl _) g1
    refine Ev.step (fun k => by rw [bits_Div64.j2]) ?_
    simp only [if_neg (show ¬ Y / 4294967296 = 0 by omega)]
    have hqr := quot_rem (n := u * 4294967296 + v1) hY
    have hr0 := Int.emod_nonneg (u * 4294967296 + v1) (Int.ne_of_gt hY)
    have hr1 := Int.emod_lt_of_pos (u * 4294967296 + v1) hY
    have hd0 : 0 ≤ (u * 4294967296 + v1) / Y := Int.ediv_nonneg (by omega) (by omega)
    have hd1 : (u * 4294967296 + v1) / Y < 4294967296 := by rw [Int.ediv_lt_iff_lt_mul hY]; omega
    have e21 : IntKind.u64.wrap (IntKind.u64.wrap (IntKind.u64.wrap (u * 4294967296) + v1) - IntKind.u64.wrap ((u * 4294967296 + v1) / Y * Y)) = (u * 4294967296 + v1) % Y := by
      simp only [wrapu]
      generalize (u * 4294967296 + v1) / Y * Y = P at *
      generalize (u * 4294967296 + v1) % Y = Q at *
      omega
    rw [e21]
    generalize (u * 4294967296 + v1) % Y = u2 at *
    generalize (u * 4294967296 + v1) / Y = q1 at *
    rw [Int.tdiv_eq_ediv_of_nonneg hr0]
    have g2 := guess_first hYs hy1a.1 hy1a.2 hy0a.1 hy0a.2 hr0 hr1 v00.1 v00.2
    have gb2 := g2
    obtain ⟨_, _, gc2, gd2, ge2, gf2⟩ := gb2
    have hdm2 : 0 ≤ u2 / (Y / 4294967296) * (Y / 4294967296) ∧ u2 / (Y / 4294967296) * (Y / 4294967296) ≤ u2 := ⟨Int.mul_nonneg ge2 (by omega), by omega⟩
    rw [wrapu_id (n := u2 / (Y / 4294967296)) (by omega) (by omega), wrapu_id (n := u2 / (Y / 4294967296) * (Y / 4294967296)) (by omega) (by omega), wrapu_id (n := u2 - u2 / (Y / 4294967296) * (Y / 4294967296)) (by omega) (by omega)]
    have hfin := Div64_l1 (s := s) (by omega) hYs hy1a.1 hy1a.2 hy0a.1 hy0a.2 hr0 hr1 v00.1 v00.2 hd0 hd1 _ _ _ (Nat.le_refl _) g2
    rw [t1, t2] at hfin
    exact hfin
theorem times_ev {a b m : Int} (h0 : 0 < m) (h1 : m ≤ 4611686018427387904) : Ev (fun k => impl_times.f k a b m) (a * b % m) := by
  unfold impl_times.f
  have a0 := Int.emod_nonneg a (Int.ne_of_gt h0)
  have a1 := Int.emod_lt_of_pos a h0
  have b0 := Int.emod_nonneg b (Int.ne_of_gt h0)
  have b1 := Int.emod_lt_of_pos b h0
  simp only [mod_ev h0 h1, Option.bind_some]
  rw [wrapu_id (n := a % m) a0 (by omega), wrapu_id (n := b % m) b0 (by omega), wrapu_id (n := m) (by omega) (by omega)]
  simp only [Mul64_eq a0 (show a % m < 18446744073709551616 by omega) b0 (show b % m < 18446744073709551616 by omega), Option.bind_some, if_neg (Int.ne_of_gt h0)]
  have p0 : 0 ≤ a % m * (b % m) := Int.mul_nonneg a0 b0
  have hd0 : 0 ≤ a % m * (b % m) / 18446744073709551616 := Int.ediv_nonneg p0 (by decide)
  rw [Int.tmod_eq_emod_of_nonneg hd0]
  have r0 := Int.emod_nonneg (a % m * (b % m) / 18446744073709551616) (Int.ne_of_gt h0)
  have r1 := Int.emod_lt_of_pos (a % m * (b % m) / 18446744073709551616) h0
  have s0 := Int.emod_nonneg (a % m * (b % m)) (show (18446744073709551616 : Int) ≠ 0 by decide)
  have s1 := Int.emod_lt_of_pos (a % m * (b % m)) (show (0 : Int) < 18446744073709551616 by decide)
  rw [bnd (Div64_ev r0 r1 (by omega) s0 s1)]
  have e : (a % m * (b % m) / 18446744073709551616 % m * 18446744073709551616 + a % m * (b % m) % 18446744073709551616) % m = a * b % m := by
    rw [Int.add_emod, mul_emod_left, ← Int.add_emod]
    have : a % m * (b % m) / 18446744073709551616 * 18446744073709551616 + a % m * (b % m) % 18446744073709551616 = a % m * (b % m) := by
      have := Int.mul_ediv_add_emod (a % m * (b % m)) 18446744073709551616
      omega
    rw [this, ← Int.mul_emod]
  have t0 := Int.emod_nonneg (a * b) (Int.ne_of_gt h0)
  have t1 := Int.emod_lt_of_pos (a * b) h0
  refine ev_some ?_
  simp only
  rw [e, wrap_id (by omega) (by omega)]
theorem inverse_l {n m : Int} (hm : 0 < m) (hm' : m ≤ 1000000000000) : ∀ (k : Nat) (a b : Nat) (x y : Int), b ≤ k → Euc n m a b x y → (a : Int) ≤ 1000000000000 → (b : Int) ≤ 1000000000000 →
    ∃ r, Ev (fun k => impl_inverse.l0 k m a b x y) r ∧ 0 ≤ r ∧ r < m ∧ m ∣ r * n - 1 := by
  intro k
  induction k with
  | zero =>
    intro a b x y hb he ha1 hb1
    obtain rfl : b = 0 := by omega
    have hl := he.last
    have hbd := he.bounds
    refine ⟨x % m, ?_, Int.emod_nonneg _ (Int.ne_of_gt hm), Int.emod_lt_of_pos _ hm, ?_⟩
    · refine Ev.step (fun k => by rw [impl_inverse.l0]) ?_
      simp only [Int.natCast_zero, if_true, mod_ev hm (show m ≤ 4611686018427387904 by omega), Option.bind_some]
      exact Ev.now _
    · have h1 := dvd_emod_sub x m
      have h2 : x % m * n - 1 = (x % m - x) * n + (x * n - 1) := by rw [Int.sub_mul]; omega
      rw [h2]
      exact Int.dvd_add (Int.dvd_trans h1 (Int.dvd_mul_right _ _)) hl
  | succ k ih =>
    intro a b x y hb he ha1 hb1
    by_cases hz : b = 0
    · exact ih a b x y (by omega) he ha1 hb1
    · have hnx := he.next (by omega)
      obtain ⟨r, hr, h0, h1, h2⟩ := ih b (a % b) y (x - (a / b : Nat) * y) (by have := Nat.mod_lt a (show 0 < b by omega); omega) hnx hb1 (by have := Nat.mod_lt a (show 0 < b by omega); omega)
      refine ⟨r, ?_, h0, h1, h2⟩
      refine Ev.step (fun k => by rw [impl_inverse.l0]) ?_
      suffices hs : wrap64 (Int.tdiv (a : Int) b) = (a / b : Nat) ∧ wrap64 ((a : Int) - wrap64 ((a / b : Nat) * (b : Int))) = (a % b : Nat) ∧ wrap64 (x - wrap64 ((a / b : Nat) * y)) = x - (a / b : Nat) * y by
        simp only [if_neg (show ¬ (b : Int) = 0 by omega), hs.1, hs.2.1, hs.2.2]
        exact hr
      have hbd := he.bounds
      have hbd2 := hnx.bounds
      have eq : Int.tdiv (a : Int) b = (a / b : Nat) := by rw [Int.tdiv_eq_ediv_of_nonneg (by omega), Int.natCast_ediv]
      have hdm := Nat.div_add_mod a b
      have hle := Nat.div_le_self a b
      have hmod := Nat.mod_le a b
      have hprod : ((a / b : Nat) : Int) * b = a - (a % b : Nat) := by
        have : ((b * (a / b) + a % b : Nat) : Int) = (a : Int) := by rw [hdm]
        rw [Int.natCast_add, Int.natCast_mul, Int.mul_comm (b : Int)] at this
        omega
      rw [eq]
      exact euc_wraps hle hmod hprod (by omega) hm hm' hbd hbd2
theorem inverse_ev {p n : Int} (h : IsP p) {e : Nat} (he : e ≤ 14) (hn : ¬ p ∣ n) :
    ∃ r, Ev (fun k => impl_inverse.f k n (p ^ e)) r ∧ 0 ≤ r ∧ r < p ^ e ∧ p ^ e ∣ r * n - 1 := by
  have h0 := pow_pos' h e
  have h7 := pow_le_seven h (m := e) (n := 14) (by omega)
  have e14 : (7 : Int) ^ 14 = 678223072849 := by decide
  have hst := Euc.start (n := n) h0 (coprime_start h hn e)
  have hr0 := Int.emod_nonneg n (Int.ne_of_gt h0)
  have hr1 := Int.emod_lt_of_pos n h0
  obtain ⟨r, hr, a, b, c⟩ := inverse_l h0 (by omega) _ _ _ _ _ (Nat.le_refl _) hst (by omega) (by omega)
  refine ⟨r, ?_, a, b, c⟩
  unfold impl_inverse.f
  simp only [mod_ev h0 (show p ^ e ≤ 4611686018427387904 by omega), Option.bind_some]
  rw [Int.toNat_of_nonneg hr0, Int.toNat_of_nonneg (by omega)] at hr
  exact hr
theorem unit_ev {p x u : Int} (h : IsP p) (hx : x ≠ 0) (hu : x = p ^ vl p x * u) (h0 : -9223372036854775807 ≤ x) (h1 : x ≤ 9223372036854775807) : Ev (fun k => impl_unit.f k p x) u := by
  unfold impl_unit.f
  rw [bnd (valuation_ev h hx h0 h1), bnd (power_any h hx h0 h1)]
  have q1 : Int.tdiv x (p ^ vl p x) = u := by
    conv => lhs; arg 1; rw [hu]
    exact tdiv_mul_left (pow_ne' h _)
  have c1 := tdiv_bounds (n := x) (m := p ^ vl p x)
  rw [q1] at c1
  simp only [if_neg (pow_ne' h _), q1]
  exact ev_some (wrap_id (by omega) (by omega))
/-- The form of two columns, told by the column (x, y) whose lower entry has the lesser valuation. -/
def LatOfIs (p x y det : Int) (r : Int × Int × Int × Int) : Prop :=
  (((vl p det : Int) - vl p y > 12 ∨ (vl p y : Int) > 12) ∧ r = (0, 0, 0, 3)) ∨
  (¬ ((vl p det : Int) - vl p y > 12 ∨ (vl p y : Int) > 12) ∧ ∃ mix, 0 ≤ mix ∧ mix < p ^ (vl p det - vl p y) ∧ p ^ vl p det ∣ mix * y - x * p ^ vl p y ∧ r = (((vl p det - vl p y : Nat) : Int), mix, (vl p y : Int), 0))
theorem LatOfIs.uniq {p a b c d : Int} {r r' : Int × Int × Int × Int} (hp : IsP p) (hc : c ≠ 0) (hd : d ≠ 0) (hcd : vl p c = vl p d) (hdet : a * d - b * c ≠ 0)
    (h : LatOfIs p a c (a * d - b * c) r) (h' : LatOfIs p b d (a * d - b * c) r') : r = r' := by
  rcases h with ⟨h1, rfl⟩ | ⟨h1, m, m0, m1, hm, rfl⟩
  · rcases h' with ⟨_, rfl⟩ | ⟨h2, _⟩
    · rfl
    · rw [hcd] at h1; exact absurd h1 h2
  · rcases h' with ⟨h2, _⟩ | ⟨h2, n, n0, n1, hn, rfl⟩
    · rw [hcd] at h1; exact absurd h2 h1
    · have : m = n := by
        obtain ⟨uc, huc, hucd, _⟩ := vl_split hp c hc
        obtain ⟨ud, hud, hudd, _⟩ := vl_split hp d hd
        rw [hcd] at huc m1 hm
        generalize hv : vl p d = v at *
        have hdd : p ^ vl p (a * d - b * c) ∣ a * d - b * c := pow_vl_dvd hp hdet
        have hle : v ≤ vl p (a * d - b * c) := by
          refine (pow_dvd_iff hp hdet v).1 ?_
          exact Int.dvd_sub (Int.dvd_trans ⟨ud, hud⟩ (Int.dvd_mul_left _ _)) (Int.dvd_trans ⟨uc, huc⟩ (Int.dvd_mul_left _ _))
        have key : p ^ (vl p (a * d - b * c) - v) ∣ m - n := by
          refine not_dvd_pow_mul hp hucd (not_dvd_pow_mul hp hudd ?_)
          refine dvd_cancel (pow_ne' hp v) ?_
          have e0 : p ^ v * p ^ (vl p (a * d - b * c) - v) = p ^ vl p (a * d - b * c) := by rw [← Int.pow_add]; congr 1; omega
          rw [e0]
          have k1 : p ^ vl p (a * d - b * c) ∣ (m * c - a * p ^ v) * ud := Int.dvd_trans hm (Int.dvd_mul_right _ _)
          have k2 : p ^ vl p (a * d - b * c) ∣ (n * d - b * p ^ v) * uc := Int.dvd_trans hn (Int.dvd_mul_right _ _)
          have k3 := Int.dvd_add (Int.dvd_sub k1 k2) hdd
          have e1 : (m * c - a * p ^ v) * ud - (n * d - b * p ^ v) * uc + (a * d - b * c) = p ^ v * ((m - n) * uc * ud) := by
            have e2 : m * c * ud = p ^ v * (m * uc * ud) := by rw [huc]; simp only [Int.mul_assoc, Int.mul_comm, Int.mul_left_comm]
            have e3 : n * d * uc = p ^ v * (n * uc * ud) := by rw [hud]; simp only [Int.mul_assoc, Int.mul_comm, Int.mul_left_comm]
            have e4 : a * p ^ v * ud = a * d := by rw [Int.mul_assoc, ← hud]
            have e5 : b * p ^ v * uc = b * c := by rw [Int.mul_assoc, ← huc]
            rw [Int.sub_mul, Int.sub_mul, e2, e3, e4, e5, Int.sub_mul m n, Int.sub_mul, Int.mul_sub]
            omega
          rw [e1] at k3
          exact k3
        have h5 := emod_eq_of_dvd key
        rw [Int.emod_eq_of_lt m0 m1, Int.emod_eq_of_lt n0 n1] at h5
        exact h5
      rw [this, hcd]
theorem LatOfIs.same {p x y det : Int} {r r' : Int × Int × Int × Int} (h : LatOfIs p x y det r) (h' : LatOfIs p x y det r') (hp : IsP p) (hy : y ≠ 0) : r = r' := by
  rcases h with ⟨h1, rfl⟩ | ⟨h1, m, m0, m1, hm, rfl⟩
  · rcases h' with ⟨_, rfl⟩ | ⟨h2, _⟩
    · rfl
    · exact absurd h1 h2
  · rcases h' with ⟨h2, _⟩ | ⟨h2, n, n0, n1, hn, rfl⟩
    · exact absurd h2 h1
    · have : m = n := by
        obtain ⟨uy, huy, huyd, _⟩ := vl_split hp y hy
        by_cases hle : vl p y ≤ vl p det
        · have key : p ^ (vl p det - vl p y) ∣ m - n := by
            refine not_dvd_pow_mul hp huyd ?_
            refine dvd_cancel (pow_ne' hp (vl p y)) ?_
            have e0 : p ^ vl p y * p ^ (vl p det - vl p y) = p ^ vl p det := by rw [← Int.pow_add]; congr 1; omega
            rw [e0]
            have k := Int.dvd_sub hm hn
            have e1 : m * y - x * p ^ vl p y - (n * y - x * p ^ vl p y) = p ^ vl p y * ((m - n) * uy) := by
              have e2 : p ^ vl p y * ((m - n) * uy) = (m - n) * y := by
                conv => rhs; arg 2; rw [huy]
                rw [Int.mul_left_comm]
              rw [e2, Int.sub_mul]; omega
            rwa [e1] at k
          have h5 := emod_eq_of_dvd key
          rw [Int.emod_eq_of_lt m0 m1, Int.emod_eq_of_lt n0 n1] at h5
          exact h5
        · have e0 : vl p det - vl p y = 0 := by omega
          rw [e0, Int.pow_zero] at m1 n1
          omega
      rw [this]
theorem LatOfIs.det_neg {p x y det : Int} {r : Int × Int × Int × Int} (hp : IsP p) (hdet : det ≠ 0) (h : LatOfIs p x y (-det) r) : LatOfIs p x y det r := by
  unfold LatOfIs at *
  rw [vl_neg hp hdet] at h
  exact h
theorem implLatOf_j {p x y det : Int} (hp : IsP p) (hy : y ≠ 0) (hdet : det ≠ 0) (hle : vl p y ≤ vl p det) (hxb : -1000000 ≤ x ∧ x ≤ 1000000) (hyb : -1000000 ≤ y ∧ y ≤ 1000000) (hdb : -4000000000000 ≤ det ∧ det ≤ 4000000000000) :
    ∃ r, Ev (fun k => impl_LatticeOf.j0 k p det x y) r ∧ LatOfIs p x y det r := by
  have v1 := vl_le_62 hp hy (by omega) (by omega)
  have v2 := vl_le_62 hp hdet (by omega) (by omega)
  have hstart : ∀ r, Ev (fun k => impl_LatticeOf.j1 k p x y (vl p y) ((vl p det : Int) - vl p y) (decide ((vl p det : Int) - vl p y > 12 ∨ (vl p y : Int) > 12))) r → Ev (fun k => impl_LatticeOf.j0 k p det x y) r := by
    intro r hr
    refine Ev.step (fun k => by rw [impl_LatticeOf.j0]) ?_
    rw [bnd (valuation_ev hp hy (by omega) (by omega)), bnd (valuation_ev hp hdet (by omega) (by omega)), wrap_id (by omega) (by omega)]
    by_cases h1 : (vl p det : Int) - vl p y > 12
    · simp only [if_pos h1]
      have : decide ((vl p det : Int) - vl p y > 12 ∨ (vl p y : Int) > 12) = true := decide_eq_true (.inl h1)
      rwa [this] at hr
    · simp only [if_neg h1]
      have : decide ((vl p det : Int) - vl p y > 12 ∨ (vl p y : Int) > 12) = decide ((vl p y : Int) > 12) := by simp [h1]
      rwa [this] at hr
  by_cases hb : (vl p det : Int) - vl p y > 12 ∨ (vl p y : Int) > 12
  · refine ⟨(0, 0, 0, 3), hstart _ ?_, .inl ⟨hb, rfl⟩⟩
    rw [decide_eq_true hb]
    refine Ev.step (fun k => by rw [impl_LatticeOf.j1]) ?_
    simp only [if_true]; exact Ev.now _
  · obtain ⟨uy, huy, huyd, _⟩ := vl_split hp y hy
    have e1 : ((vl p det : Int) - vl p y).toNat = vl p det - vl p y := by omega
    have h0 := pow_pos' hp (vl p det - vl p y)
    have h7 := pow_le_seven hp (m := vl p det - vl p y) (n := 12) (by omega)
    have e12 : (7 : Int) ^ 12 = 13841287201 := by decide
    obtain ⟨inv, hinv, i0, i1, hid⟩ := inverse_ev hp (n := uy) (e := vl p det - vl p y) (by omega) huyd
    have m0 := Int.emod_nonneg (x * inv) (Int.ne_of_gt h0)
    have m1 := Int.emod_lt_of_pos (x * inv) h0
    refine ⟨((vl p det - vl p y : Nat), x * inv % p ^ (vl p det - vl p y), vl p y, 0), hstart _ ?_, .inr ⟨hb, _, m0, m1, ?_, rfl⟩⟩
    · rw [decide_eq_false hb]
      refine Ev.step (fun k => by rw [impl_LatticeOf.j1]) ?_
      simp only [if_neg Bool.false_ne_true]
      rw [bnd (power_ev hp (by omega)), e1, bnd (unit_ev hp hy huy (by omega) (by omega)), bnd hinv, bnd (times_ev h0 (by omega))]
      unfold impl_form.f
      simp only [if_neg (show ¬ (vl p det : Int) - vl p y > 12 by omega), if_neg (show ¬ (vl p y : Int) > 12 by omega), Option.bind_some]
      exact ev_some (by rw [show (vl p det : Int) - vl p y = ((vl p det - vl p y : Nat) : Int) by omega])
    · have d1 := dvd_emod_sub (x * inv) (p ^ (vl p det - vl p y))
      have d2 : p ^ (vl p det - vl p y) ∣ (x * inv % p ^ (vl p det - vl p y) - x * inv) * uy + x * (inv * uy - 1) := Int.dvd_add (Int.dvd_trans d1 (Int.dvd_mul_right _ _)) (Int.dvd_trans hid (Int.dvd_mul_left _ _))
      have e2 : p ^ vl p det = p ^ vl p y * p ^ (vl p det - vl p y) := by rw [← Int.pow_add]; congr 1; omega
      have e3 : x * inv % p ^ (vl p det - vl p y) * y - x * p ^ vl p y = p ^ vl p y * ((x * inv % p ^ (vl p det - vl p y) - x * inv) * uy + x * (inv * uy - 1)) := by
        generalize x * inv % p ^ (vl p det - vl p y) = q
        conv => lhs; arg 1; arg 2; rw [huy]
        have a1 : (q - x * inv) * uy + x * (inv * uy - 1) = q * uy - x := by
          rw [Int.sub_mul, Int.mul_sub, Int.mul_one, ← Int.mul_assoc]; omega
        rw [a1, Int.mul_sub, Int.mul_left_comm, Int.mul_comm x]
      rw [e2, e3]
      exact Int.mul_dvd_mul (Int.dvd_refl _) d2
theorem l03Cross_ev {p a b r s : Int} (hp : IsP p) (ha : -1000000 ≤ a ∧ a ≤ 1000000) (hz : a * r - s * b ≠ 0) :
    Ev (fun k => spec_l03Cross.f k p a r s b) (if vl p (a * r - s * b) < 13 then (vl p (a * r - s * b) : Int) else -1) := by
  unfold spec_l03Cross.f
  have h13 := pow_pos' hp 13
  have h13' := pow_le_seven hp (m := 13) (n := 13) (Nat.le_refl _)
  have e13 : (7 : Int) ^ 13 = 96889010407 := by decide
  have p13 := l01Power_ev hp (n := 13) (by omega)
  rw [show (13 : Int).toNat = 13 from rfl] at p13
  rw [bnd p13]
  simp only [l01MulMod_eq h13 (show p ^ 13 ≤ 100000000000 by omega), Option.bind_some, if_neg (pow_ne' hp _)]
  have t0 := Int.emod_nonneg (a * r) (Int.ne_of_gt h13)
  have t1 := Int.emod_lt_of_pos (a * r) h13
  have s0 := Int.emod_nonneg (s * b) (Int.ne_of_gt h13)
  have s1 := Int.emod_lt_of_pos (s * b) h13
  rw [wrap_id (x := a * r % p ^ 13 - s * b % p ^ 13) (by omega) (by omega), wrap_id (by omega) (by omega), Int.tmod_eq_emod_of_nonneg (by omega), Int.add_emod_right]
  have hc : p ^ 13 ∣ (a * r - s * b) - (a * r % p ^ 13 - s * b % p ^ 13) % p ^ 13 := by
    refine dvd_of_emod_eq ?_
    rw [Int.emod_emod, ← Int.sub_emod]
  have y0 := Int.emod_nonneg (a * r % p ^ 13 - s * b % p ^ 13) (Int.ne_of_gt h13)
  have y1 := Int.emod_lt_of_pos (a * r % p ^ 13 - s * b % p ^ 13) h13
  by_cases hd : p ^ 13 ∣ a * r - s * b
  · have hy : (a * r % p ^ 13 - s * b % p ^ 13) % p ^ 13 = 0 := by
      have := Int.dvd_sub hd hc
      have e1 : a * r - s * b - ((a * r - s * b) - (a * r % p ^ 13 - s * b % p ^ 13) % p ^ 13) = (a * r % p ^ 13 - s * b % p ^ 13) % p ^ 13 := by omega
      rw [e1] at this
      have := Int.emod_eq_zero_of_dvd this
      rwa [Int.emod_emod] at this
    have hv := (pow_dvd_iff hp hz 13).1 hd
    simp only [if_pos hy, if_neg (show ¬ vl p (a * r - s * b) < 13 by omega)]
    exact Ev.now _
  · obtain ⟨_, h1, _, h3, h4⟩ := vl_congr hp hc hd
    simp only [if_neg h3, if_pos h4]
    rw [bnd (l01Val_ev hp h3 (by omega) (by omega)), ← h1]
    exact Ev.now _
theorem columns_j {p a b c d : Int} (hp : IsP p) (hd : d ≠ 0) (hdet : a * d - b * c ≠ 0) (hdc : p ^ vl p d ∣ c) (ha : -1000000 ≤ a ∧ a ≤ 1000000) (hb : -1000000 ≤ b ∧ b ≤ 1000000) (hcb : -1000000 ≤ c ∧ c ≤ 1000000) (hdb : -1000000 ≤ d ∧ d ≤ 1000000)
    (hdet' : -4000000000000 ≤ a * d - b * c ∧ a * d - b * c ≤ 4000000000000) :
    ∃ q r, Ev (fun k => spec_l03Columns.j0 k p a b c d) q ∧ LatOfIs p b d (a * d - b * c) r ∧ r = (if q.2.2.2 = true then (q.1, q.2.1, q.2.2.1, 0) else (0, 0, 0, 3)) := by
  have v1 := vl_le_62 hp hd (by omega) (by omega)
  have v2 := vl_le_62 hp hdet (by omega) (by omega)
  obtain ⟨ud, hud, hudd, _⟩ := vl_split hp d hd
  obtain ⟨uc, huc⟩ := hdc
  by_cases h12 : (vl p d : Int) > 12
  · refine ⟨(0, 0, 0, false), (0, 0, 0, 3), ?_, .inl ⟨.inr h12, rfl⟩, by simp⟩
    refine Ev.step (fun k => by rw [spec_l03Columns.j0]) ?_
    rw [bnd (l01Val_ev hp hd (by omega) (by omega))]
    simp only [if_pos h12]; exact Ev.now _
  · have hcross : a * ud - uc * b ≠ 0 ∧ vl p (a * d - b * c) = vl p d + vl p (a * ud - uc * b) := by
      have e1 : a * d - b * c = p ^ vl p d * (a * ud - uc * b) := by
        rw [Int.mul_sub]
        have e2 : a * d = p ^ vl p d * (a * ud) := by
          conv => lhs; arg 2; rw [hud]
          rw [Int.mul_left_comm]
        have e3 : b * c = p ^ vl p d * (uc * b) := by
          conv => lhs; arg 2; rw [huc]
          rw [Int.mul_left_comm, Int.mul_comm b]
        rw [e2, e3]
      have hne : a * ud - uc * b ≠ 0 := by
        intro h0; rw [e1, h0, Int.mul_zero] at hdet; exact hdet rfl
      refine ⟨hne, ?_⟩
      rw [e1, vl_pow_mul hp hne]
    have q1 : Int.tdiv d (p ^ vl p d) = ud := by
      conv => lhs; arg 1; rw [hud]
      exact tdiv_mul_left (pow_ne' hp _)
    have q2 : Int.tdiv c (p ^ vl p d) = uc := by
      conv => lhs; arg 1; rw [huc]
      exact tdiv_mul_left (pow_ne' hp _)
    have c1 := tdiv_bounds (n := d) (m := p ^ vl p d)
    have c2 := tdiv_bounds (n := c) (m := p ^ vl p d)
    rw [q1] at c1
    rw [q2] at c2
    have hcr := l03Cross_ev (b := b) (r := ud) (s := uc) hp ha hcross.1
    have hstart : ∀ q, Ev (fun k => ((fun (t : Int) => if t < 0 then some (0, 0, 0, false) else ((spec_l01Power.f k p t).bind fun t115 => ((spec_l01InvMod.f k ud t115).bind fun t116 => ((spec_l01MulMod.f b t116 t115).bind fun t117 => (some (t, t117, (vl p d : Int), true)))))) (if vl p (a * ud - uc * b) < 13 then (vl p (a * ud - uc * b) : Int) else -1))) q → Ev (fun k => spec_l03Columns.j0 k p a b c d) q := by
      intro q hq
      refine Ev.step (fun k => by rw [spec_l03Columns.j0]) ?_
      rw [bnd (l01Val_ev hp hd (by omega) (by omega))]
      simp only [if_neg h12]
      rw [bnd (l01Power_any hp hd (by omega) (by omega))]
      simp only [if_neg (pow_ne' hp _), q1, q2]
      rw [wrap_id (x := ud) (by omega) (by omega), wrap_id (x := uc) (by omega) (by omega), bnd hcr]
      exact hq
    by_cases h13 : vl p (a * ud - uc * b) < 13
    · have e1 : vl p (a * ud - uc * b) = vl p (a * d - b * c) - vl p d := by omega
      have h0 := pow_pos' hp (vl p (a * d - b * c) - vl p d)
      have h7 := pow_le_seven hp (m := vl p (a * d - b * c) - vl p d) (n := 12) (by omega)
      have e12 : (7 : Int) ^ 12 = 13841287201 := by decide
      obtain ⟨inv, hinv, i0, i1, hid⟩ := l01InvMod_ev hp (n := ud) (e := vl p (a * d - b * c) - vl p d) (by omega) hudd
      have m0 := Int.emod_nonneg (b * inv) (Int.ne_of_gt h0)
      have m1 := Int.emod_lt_of_pos (b * inv) h0
      refine ⟨((vl p (a * d - b * c) - vl p d : Nat), b * inv % p ^ (vl p (a * d - b * c) - vl p d), vl p d, true), ((vl p (a * d - b * c) - vl p d : Nat), b * inv % p ^ (vl p (a * d - b * c) - vl p d), vl p d, 0), hstart _ ?_, .inr ⟨by omega, _, m0, m1, ?_, rfl⟩, by simp⟩
      · simp only [if_pos h13, if_neg (show ¬ (vl p (a * ud - uc * b) : Int) < 0 by omega)]
        rw [e1]
        have hpw := l01Power_ev hp (n := ((vl p (a * d - b * c) - vl p d : Nat) : Int)) (by omega)
        rw [Int.toNat_natCast] at hpw
        rw [bnd hpw, bnd hinv]
        simp only [l01MulMod_eq h0 (show p ^ (vl p (a * d - b * c) - vl p d) ≤ 100000000000 by omega), Option.bind_some]
        exact Ev.now _
      · have d1 := dvd_emod_sub (b * inv) (p ^ (vl p (a * d - b * c) - vl p d))
        have d2 : p ^ (vl p (a * d - b * c) - vl p d) ∣ (b * inv % p ^ (vl p (a * d - b * c) - vl p d) - b * inv) * ud + b * (inv * ud - 1) := Int.dvd_add (Int.dvd_trans d1 (Int.dvd_mul_right _ _)) (Int.dvd_trans hid (Int.dvd_mul_left _ _))
        have e2 : p ^ vl p (a * d - b * c) = p ^ vl p d * p ^ (vl p (a * d - b * c) - vl p d) := by rw [← Int.pow_add]; congr 1; omega
        have e3 : b * inv % p ^ (vl p (a * d - b * c) - vl p d) * d - b * p ^ vl p d = p ^ vl p d * ((b * inv % p ^ (vl p (a * d - b * c) - vl p d) - b * inv) * ud + b * (inv * ud - 1)) := by
          generalize b * inv % p ^ (vl p (a * d - b * c) - vl p d) = q
          conv => lhs; arg 1; arg 2; rw [hud]
          have a1 : (q - b * inv) * ud + b * (inv * ud - 1) = q * ud - b := by
            rw [Int.sub_mul, Int.mul_sub, Int.mul_one, ← Int.mul_assoc]; omega
          rw [a1, Int.mul_sub, Int.mul_left_comm, Int.mul_comm b]
        rw [e2, e3]
        exact Int.mul_dvd_mul (Int.dvd_refl _) d2
    · refine ⟨(0, 0, 0, false), (0, 0, 0, 3), hstart _ ?_, .inl ⟨.inl (by omega), rfl⟩, by simp⟩
      simp only [if_neg h13, if_pos (show (-1 : Int) < 0 by omega)]
      exact Ev.now _
def LatticeOfIs (p a b c d : Int) (r : Int × Int × Int × Int) : Prop :=
  (¬ IsP p ∧ r = (0, 0, 0, 1)) ∨
  (IsP p ∧ ¬ ((-1000000 ≤ a ∧ a ≤ 1000000) ∧ (-1000000 ≤ b ∧ b ≤ 1000000) ∧ (-1000000 ≤ c ∧ c ≤ 1000000) ∧ -1000000 ≤ d ∧ d ≤ 1000000) ∧ r = (0, 0, 0, 2)) ∨
  (IsP p ∧ ((-1000000 ≤ a ∧ a ≤ 1000000) ∧ (-1000000 ≤ b ∧ b ≤ 1000000) ∧ (-1000000 ≤ c ∧ c ≤ 1000000) ∧ -1000000 ≤ d ∧ d ≤ 1000000) ∧ a * d - b * c = 0 ∧ r = (0, 0, 0, 5)) ∨
  (IsP p ∧ ((-1000000 ≤ a ∧ a ≤ 1000000) ∧ (-1000000 ≤ b ∧ b ≤ 1000000) ∧ (-1000000 ≤ c ∧ c ≤ 1000000) ∧ -1000000 ≤ d ∧ d ≤ 1000000) ∧ a * d - b * c ≠ 0 ∧
    ((d ≠ 0 ∧ p ^ vl p d ∣ c ∧ LatOfIs p b d (a * d - b * c) r) ∨ (c ≠ 0 ∧ p ^ vl p c ∣ d ∧ LatOfIs p a c (a * d - b * c) r)))
theorem mul_small {a b : Int} (ha : -1000000 ≤ a ∧ a ≤ 1000000) (hb : -1000000 ≤ b ∧ b ≤ 1000000) : -1000000000000 ≤ a * b ∧ a * b ≤ 1000000000000 := by
  rcases Int.le_total 0 a with h1 | h1 <;> rcases Int.le_total 0 b with h2 | h2
  · have := Int.mul_le_mul ha.2 hb.2 h2 (by omega)
    have := Int.mul_nonneg h1 h2
    omega
  · have := Int.mul_le_mul ha.2 (show -b ≤ 1000000 by omega) (by omega) (by omega)
    have := Int.mul_nonneg h1 (show 0 ≤ -b by omega)
    rw [Int.mul_neg] at *
    omega
  · have := Int.mul_le_mul (show -a ≤ 1000000 by omega) hb.2 h2 (by omega)
    have := Int.mul_nonneg (show 0 ≤ -a by omega) h2
    rw [Int.neg_mul] at *
    omega
  · have := Int.mul_le_mul (show -a ≤ 1000000 by omega) (show -b ≤ 1000000 by omega) (by omega) (by omega)
    have := Int.mul_nonneg (show 0 ≤ -a by omega) (show 0 ≤ -b by omega)
    rw [Int.neg_mul_neg] at *
    omega
theorem vx_dvd {p c d : Int} (hp : IsP p) (hd : d ≠ 0) (h : c = 0 ∨ vl p d ≤ vl p c) : p ^ vl p d ∣ c := by
  by_cases hc : c = 0
  · subst hc; exact Int.dvd_zero _
  · rcases h with h | h
    · exact absurd h hc
    · exact (pow_dvd_iff hp hc _).2 h
theorem latticeOf_both (p a b c d : Int) : ∃ r, Ev (fun k => spec_LatticeOf.f k p a b c d) r ∧ Ev (fun k => impl_LatticeOf.f k p a b c d) r ∧ LatticeOfIs p a b c d r := by
  unfold spec_LatticeOf.f impl_LatticeOf.f
  simp only [l01Prime_eq, isPrime_eq, Option.bind_some]
  by_cases hp : IsP p
  · simp only [hp, decide_true, if_true]
    by_cases hr : (-1000000 ≤ a ∧ a ≤ 1000000) ∧ (-1000000 ≤ b ∧ b ≤ 1000000) ∧ (-1000000 ≤ c ∧ c ≤ 1000000) ∧ -1000000 ≤ d ∧ d ≤ 1000000
    · obtain ⟨ha, hb, hc, hd⟩ := hr
      have m1 := mul_small ha hd
      have m2 := mul_small hb hc
      have ew : wrap64 (wrap64 (a * d) - wrap64 (b * c)) = a * d - b * c := by rw [wrap_id (x := a * d) (by omega) (by omega), wrap_id (x := b * c) (by omega) (by omega), wrap_id (by omega) (by omega)]
      have hspec : ∀ r, Ev (fun k => spec_LatticeOf.j0 k p a b c d false) r → Ev (fun k => (spec_l01In.f a (-1000000) 1000000).bind fun t120 => (if t120 = true then ((spec_l01In.f b (-1000000) 1000000).bind fun t121 => (if t121 = true then ((spec_l01In.f c (-1000000) 1000000).bind fun t122 => (if t122 = true then ((spec_l01In.f d (-1000000) 1000000).bind fun t123 => (spec_LatticeOf.j0 k p a b c d (!t123))) else (spec_LatticeOf.j0 k p a b c d true))) else (spec_LatticeOf.j0 k p a b c d true))) else (spec_LatticeOf.j0 k p a b c d true))) r := by
        intro r h
        simp only [l01In_eq, Option.bind_some, ha, hb, hc, hd, and_self, decide_true, if_true, Bool.not_true]
        exact h
      have himpl : ∀ r, Ev (fun k => if wrap64 (wrap64 (a * d) - wrap64 (b * c)) = 0 then (some (0, 0, 0, 5)) else ((impl_valuation.f k p d).bind fun t149 => ((impl_valuation.f k p c).bind fun t150 => (if t149 < t150 then (impl_LatticeOf.j0 k p (wrap64 ((wrap64 (a * d)) - (wrap64 (b * c)))) b d) else (impl_LatticeOf.j0 k p (wrap64 ((wrap64 (a * d)) - (wrap64 (b * c)))) a c))))) r →
          Ev (fun k => (impl_within.f k 1000000 [a, b, c, d]).bind fun t148 => (if t148 = true then (if wrap64 (wrap64 (a * d) - wrap64 (b * c)) = 0 then (some (0, 0, 0, 5)) else ((impl_valuation.f k p d).bind fun t149 => ((impl_valuation.f k p c).bind fun t150 => (if t149 < t150 then (impl_LatticeOf.j0 k p (wrap64 ((wrap64 (a * d)) - (wrap64 (b * c)))) b d) else (impl_LatticeOf.j0 k p (wrap64 ((wrap64 (a * d)) - (wrap64 (b * c)))) a c))))) else (some (0, 0, 0, 2)))) r := by
        intro r h
        rw [bnd (within4 (by omega) (by omega))]
        simp only [ha, hb, hc, hd, and_self, decide_true, if_true]
        exact h
      by_cases hz : a * d - b * c = 0
      · refine ⟨(0, 0, 0, 5), hspec _ ?_, himpl _ ?_, .inr (.inr (.inl ⟨hp, ⟨ha, hb, hc, hd⟩, hz, rfl⟩))⟩
        · refine Ev.step (fun k => by rw [spec_LatticeOf.j0]) ?_
          rw [ew]
          simp only [if_neg Bool.false_ne_true, if_pos hz]; exact Ev.now _
        · rw [ew]
          simp only [if_pos hz]; exact Ev.now _
      · have hcd : ¬ (c = 0 ∧ d = 0) := by rintro ⟨rfl, rfl⟩; simp at hz
        -- the reference's way
        have hsp : ∃ r, Ev (fun k => spec_LatticeOf.j0 k p a b c d false) r ∧
            (((c ≠ 0 ∧ (d = 0 ∨ vl p c < vl p d)) ∧ LatOfIs p a c (a * d - b * c) r) ∨ ((d ≠ 0 ∧ (c = 0 ∨ vl p d ≤ vl p c)) ∧ LatOfIs p b d (a * d - b * c) r)) := by
          have hcol : ∀ q r, Ev (fun k => spec_l03Columns.f k p a b c d) q → r = (if q.2.2.2 = true then (q.1, q.2.1, q.2.2.1, 0) else (0, 0, 0, 3)) → Ev (fun k => spec_LatticeOf.j0 k p a b c d false) r := by
            intro q r hq e
            refine Ev.step (fun k => by rw [spec_LatticeOf.j0]) ?_
            rw [ew]
            simp only [if_neg Bool.false_ne_true, if_neg hz]
            rw [bnd hq, e]
            by_cases h2 : q.2.2.2 = true
            · simp only [if_pos h2]; exact Ev.now _
            · simp only [if_neg h2]; exact Ev.now _
          by_cases hlt : c ≠ 0 ∧ (d = 0 ∨ vl p c < vl p d)
          · have hdvd : p ^ vl p c ∣ d := vx_dvd hp hlt.1 (by rcases hlt.2 with h | h; exact .inl h; exact .inr (by omega))
            have hz' : b * c - a * d ≠ 0 := by omega
            obtain ⟨q, r, h1, h2, h3⟩ := columns_j hp hlt.1 hz' hdvd hb ha hd hc (by omega)
            refine ⟨r, hcol q r ?_ h3, .inl ⟨hlt, ?_⟩⟩
            · unfold spec_l03Columns.f
              rw [bnd (l03Vals_ev hp (by omega) (by omega)), bnd (l03Vals_ev hp (by omega) (by omega))]
              have v1 := vl_le_62 hp hlt.1 (by omega) (by omega)
              have : (if c = 0 then 100 else (vl p c : Int)) < (if d = 0 then 100 else (vl p d : Int)) := by
                rw [if_neg hlt.1]
                split
                · omega
                · rename_i hd0; rcases hlt.2 with h | h; exact absurd h hd0; omega
              simp only [if_pos this]
              exact h1
            · have : b * c - a * d = -(a * d - b * c) := by omega
              rw [this] at h2
              exact LatOfIs.det_neg hp hz h2
          · have hd0 : d ≠ 0 := fun h => hlt ⟨fun hc0 => hcd ⟨hc0, h⟩, .inl h⟩
            have hle : c = 0 ∨ vl p d ≤ vl p c := by
              by_cases hc0 : c = 0
              · exact .inl hc0
              · right
                have : ¬ vl p c < vl p d := fun h => hlt ⟨hc0, .inr h⟩
                omega
            have hdvd : p ^ vl p d ∣ c := vx_dvd hp hd0 hle
            obtain ⟨q, r, h1, h2, h3⟩ := columns_j hp hd0 hz hdvd ha hb hc hd (by omega)
            refine ⟨r, hcol q r ?_ h3, .inr ⟨⟨hd0, hle⟩, h2⟩⟩
            unfold spec_l03Columns.f
            rw [bnd (l03Vals_ev hp (by omega) (by omega)), bnd (l03Vals_ev hp (by omega) (by omega))]
            have v1 := vl_le_62 hp hd0 (by omega) (by omega)
            have : ¬ (if c = 0 then 100 else (vl p c : Int)) < (if d = 0 then 100 else (vl p d : Int)) := by
              rw [if_neg hd0]
              split
              · omega
              · rename_i hc0; rcases hle with h | h; exact absurd h hc0; omega
            simp only [if_neg this]
            exact h1
        -- the program's way
        have hip : ∃ r, Ev (fun k => if wrap64 (wrap64 (a * d) - wrap64 (b * c)) = 0 then (some (0, 0, 0, 5)) else ((impl_valuation.f k p d).bind fun t149 => ((impl_valuation.f k p c).bind fun t150 => (if t149 < t150 then (impl_LatticeOf.j0 k p (wrap64 ((wrap64 (a * d)) - (wrap64 (b * c)))) b d) else (impl_LatticeOf.j0 k p (wrap64 ((wrap64 (a * d)) - (wrap64 (b * c)))) a c))))) r ∧
            (((d ≠ 0 ∧ (c = 0 ∨ vl p d < vl p c)) ∧ LatOfIs p b d (a * d - b * c) r) ∨ ((c ≠ 0 ∧ (d = 0 ∨ vl p c ≤ vl p d)) ∧ LatOfIs p a c (a * d - b * c) r)) := by
          rw [ew]
          simp only [if_neg hz]
          have hdet_dvd : ∀ {e : Int} {v : Nat}, p ^ v ∣ c → p ^ v ∣ d → v ≤ vl p (a * d - b * c) := by
            intro e v h1 h2
            refine (pow_dvd_iff hp hz v).1 ?_
            exact Int.dvd_sub (Int.dvd_trans h2 (Int.dvd_mul_left _ _)) (Int.dvd_trans h1 (Int.dvd_mul_left _ _))
          by_cases hlt : d ≠ 0 ∧ (c = 0 ∨ vl p d < vl p c)
          · have hdvd : p ^ vl p d ∣ c := vx_dvd hp hlt.1 (by rcases hlt.2 with h | h; exact .inl h; exact .inr (by omega))
            obtain ⟨r, h1, h2⟩ := implLatOf_j (x := b) hp hlt.1 hz (hdet_dvd (e := 0) hdvd (pow_vl_dvd hp hlt.1)) hb hd (by omega)
            refine ⟨r, ?_, .inl ⟨hlt, h2⟩⟩
            rw [bnd (valuation_any hp (by omega) (by omega)), bnd (valuation_any hp (by omega) (by omega))]
            have v1 := vl_le_62 hp hlt.1 (by omega) (by omega)
            have : vx p d < vx p c := by
              unfold vx
              rw [if_neg hlt.1]
              split
              · omega
              · rename_i hc0; rcases hlt.2 with h | h; exact absurd h hc0; omega
            simp only [if_pos this]
            exact h1
          · have hc0 : c ≠ 0 := fun h => hlt ⟨fun hd0 => hcd ⟨h, hd0⟩, .inl h⟩
            have hle : d = 0 ∨ vl p c ≤ vl p d := by
              by_cases hd0 : d = 0
              · exact .inl hd0
              · right
                have : ¬ vl p d < vl p c := fun h => hlt ⟨hd0, .inr h⟩
                omega
            have hdvd : p ^ vl p c ∣ d := vx_dvd hp hc0 hle
            obtain ⟨r, h1, h2⟩ := implLatOf_j (x := a) hp hc0 hz (hdet_dvd (e := 0) (pow_vl_dvd hp hc0) hdvd) ha hc (by omega)
            refine ⟨r, ?_, .inr ⟨⟨hc0, hle⟩, h2⟩⟩
            rw [bnd (valuation_any hp (by omega) (by omega)), bnd (valuation_any hp (by omega) (by omega))]
            have v1 := vl_le_62 hp hc0 (by omega) (by omega)
            have : ¬ vx p d < vx p c := by
              unfold vx
              rw [if_neg hc0]
              split
              · omega
              · rename_i hd0; rcases hle with h | h; exact absurd h hd0; omega
            simp only [if_neg this]
            exact h1
        obtain ⟨r, s1, s2⟩ := hsp
        obtain ⟨r', i1, i2⟩ := hip
        have hrr : r = r' := by
          rcases s2 with ⟨⟨c0, s3⟩, s4⟩ | ⟨⟨d0, s3⟩, s4⟩ <;> rcases i2 with ⟨⟨d0', i3⟩, i4⟩ | ⟨⟨c0', i3⟩, i4⟩
          · exfalso
            rcases s3 with h | h
            · exact d0' h
            · rcases i3 with h' | h'
              · exact c0 h'
              · omega
          · exact LatOfIs.same s4 i4 hp c0
          · exact LatOfIs.same s4 i4 hp d0
          · rcases i3 with h | h
            · exact absurd h d0
            · rcases s3 with h' | h'
              · exact absurd h' c0'
              · exact (LatOfIs.uniq hp c0' d0 (by omega) hz i4 s4).symm
        subst hrr
        refine ⟨r, hspec _ s1, himpl _ i1, .inr (.inr (.inr ⟨hp, ⟨ha, hb, hc, hd⟩, hz, ?_⟩))⟩
        rcases s2 with ⟨⟨c0, s3⟩, s4⟩ | ⟨⟨d0, s3⟩, s4⟩
        · exact .inr ⟨c0, vx_dvd hp c0 (by rcases s3 with h | h; exact .inl h; exact .inr (by omega)), s4⟩
        · exact .inl ⟨d0, vx_dvd hp d0 s3, s4⟩
    · refine ⟨(0, 0, 0, 2), ?_, ?_, .inr (.inl ⟨hp, hr, rfl⟩)⟩
      · simp only [l01In_eq, Option.bind_some]
        have bad : Ev (fun k => spec_LatticeOf.j0 k p a b c d true) (0, 0, 0, 2) := by
          refine Ev.step (fun k => by rw [spec_LatticeOf.j0]) ?_
          simp only [if_true]; exact Ev.now _
        by_cases ha : -1000000 ≤ a ∧ a ≤ 1000000
        · simp only [ha, and_self, decide_true, if_true]
          by_cases hb : -1000000 ≤ b ∧ b ≤ 1000000
          · simp only [hb, and_self, decide_true, if_true]
            by_cases hc : -1000000 ≤ c ∧ c ≤ 1000000
            · simp only [hc, and_self, decide_true, if_true]
              have hd : ¬ (-1000000 ≤ d ∧ d ≤ 1000000) := fun h => hr ⟨ha, hb, hc, h⟩
              simp only [hd, decide_false, Bool.not_false]
              exact bad
            · simp only [hc, decide_false, if_neg Bool.false_ne_true]; exact bad
          · simp only [hb, decide_false, if_neg Bool.false_ne_true]; exact bad
        · simp only [ha, decide_false, if_neg Bool.false_ne_true]; exact bad
      · rw [bnd (within4 (by omega) (by omega))]
        simp only [hr, decide_false, if_neg Bool.false_ne_true]; exact Ev.now _
  · simp only [hp, decide_false, if_neg Bool.false_ne_true]
    exact ⟨_, Ev.now _, Ev.now _, .inl ⟨hp, rfl⟩⟩
theorem FnExactLatticeOf : laws_FnExactLatticeOf.Pure := by
  intro a0 a1 a2 a3 a4 w0 w1 w2 w3 w4
  refine Ev.rounds (g := fun k => laws_FnExactLatticeOf.f k a0 a1 a2 a3 a4) ?_
  unfold laws_FnExactLatticeOf.f
  obtain ⟨r, h1, h2, _⟩ := latticeOf_both a0 a1 a2 a3 a4
  rw [bnd h1, bnd h2]
  simp only [laws_eqLattice.f, if_true, Option.bind_some]
  exact Ev.now _

end Go.Proofs.Ytbjdnagmjponbaa.Pure

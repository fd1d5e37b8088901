/- LatticesInside and the reference's LatticesInside answer the same for every prime, every lattice and every index, in memory of their own. No condition. -/
import Derived.Test.YtkfodnlogflcpaaPFnExactLatticesInsidex9
import Derived.Test.YtkfodnlogflcpaaMathFnExactLatticesInside
namespace Go.Proofs.Ytkfodnlogflcpaa.Pure
open Go.RowKit Go.Proofs.Ytkfodnlogflcpaa.PFnExactLatticesInside Go.Proofs.YtkfodnlogflcpaaW.PrintWords Go.Proofs.YtkfodnlogflcpaaW.PrintLast Go.Proofs.YtkfodnlogflcpaaW.PrintMore Go.Proofs.Ytkfodnlogflcpaa.Math
set_option linter.unusedVariables false
set_option linter.unusedSimpArgs false
theorem isPrime_eq (p : Int) : impl_isPrime.f p = some (decide (IsP p)) := by
  unfold impl_isPrime.f IsP
  by_cases h2 : p = 2
  · subst h2; rfl
  by_cases h3 : p = 3
  · subst h3; rfl
  by_cases h5 : p = 5
  · subst h5; rfl
  by_cases h7 : p = 7
  · subst h7; rfl
  simp [h2, h3, h5, h7]
theorem l01Prime_eq (p : Int) : spec_l01Prime.f p = some (decide (IsP p)) := by
  unfold spec_l01Prime.f IsP
  by_cases h2 : p = 2
  · subst h2; rfl
  by_cases h3 : p = 3
  · subst h3; rfl
  by_cases h5 : p = 5
  · subst h5; rfl
  by_cases h7 : p = 7
  · subst h7; rfl
  simp [h2, h3, h5, h7]
theorem l01In_eq (n a b : Int) : spec_l01In.f n a b = some (decide (a ≤ n ∧ n ≤ b)) := by
  unfold spec_l01In.f
  by_cases h : n ≥ a
  · rw [if_pos h]; simp [h]
  · rw [if_neg h]; simp; omega
theorem power_l {p : Int} (h : IsP p) (n : Nat) (hn : p ^ n ≤ 9223372036854775807) (hn' : n ≤ 1000) : ∀ d i, i + d = n → Ev (fun k => impl_power.l0 k p (p ^ i) n i) (p ^ n) := by
  intro d
  induction d with
  | zero =>
    intro i hi
    obtain rfl : i = n := by omega
    refine Ev.step (fun k => by rw [impl_power.l0]) ?_
    simp only [if_neg (Int.lt_irrefl _)]
    exact Ev.now _
  | succ d ih =>
    intro i hi
    refine Ev.step (fun k => by rw [impl_power.l0]) ?_
    have h1 : (i : Int) < n := by omega
    have h2 := pow_pos' h (i + 1)
    have h3 := pow_mono h (m := i + 1) (n := n) (by omega)
    have e1 : wrap64 (p ^ i * p) = p ^ (i + 1) := by rw [← show p ^ (i + 1) = p ^ i * p from Int.pow_succ p i]; exact wrap_id (by omega) (by omega)
    have e2 : wrap64 ((i : Int) + 1) = ((i + 1 : Nat) : Int) := by rw [wrap_id (by omega) (by omega)]; omega
    simp only [if_pos h1, e1, e2]
    exact ih (i + 1) (by omega)
theorem power_big {p : Int} (h : IsP p) {n : Nat} (hn : p ^ n ≤ 9223372036854775807) (hn' : n ≤ 1000) : Ev (fun k => impl_power.f k p n) (p ^ n) := by
  unfold impl_power.f
  have := power_l h n hn hn' n 0 (by omega)
  rw [Int.pow_zero] at this
  exact this
theorem power_ev {p : Int} (h : IsP p) {n : Int} (hn : n ≤ 22) : Ev (fun k => impl_power.f k p n) (p ^ n.toNat) := by
  by_cases h0 : 0 ≤ n
  · have := power_big h (n := n.toNat) (by have := pow_le_22 h (n := n.toNat) (by omega); omega) (by omega)
    rw [Int.toNat_of_nonneg h0] at this
    exact this
  · unfold impl_power.f
    refine Ev.step (fun k => by rw [impl_power.l0]) ?_
    have e : n.toNat = 0 := by omega
    simp only [if_neg (show ¬ (0 : Int) < n by omega), e, Int.pow_zero]
    exact Ev.now _
theorem l01Power_l {p : Int} (h : IsP p) : ∀ (d : Nat) (i : Nat), p ^ (i + d) ≤ 9223372036854775807 → i + d ≤ 1000 → Ev (fun k => spec_l01Power.l0 k p d (p ^ i)) (p ^ (i + d)) := by
  intro d
  induction d with
  | zero =>
    intro i _ _
    refine Ev.step (fun k => by rw [spec_l01Power.l0]) ?_
    simp only [if_neg (show ¬ ((0 : Nat) : Int) > 0 by omega)]
    exact Ev.now _
  | succ d ih =>
    intro i hi hi'
    refine Ev.step (fun k => by rw [spec_l01Power.l0]) ?_
    have h2 := pow_pos' h (i + 1)
    have h3 := pow_mono h (m := i + 1) (n := i + (d + 1)) (by omega)
    have e1 : wrap64 (p ^ i * p) = p ^ (i + 1) := by rw [← show p ^ (i + 1) = p ^ i * p from Int.pow_succ p i]; exact wrap_id (by omega) (by omega)
    have e2 : wrap64 (((d + 1 : Nat) : Int) - 1) = (d : Int) := by rw [wrap_id (by omega) (by omega)]; omega
    simp only [if_pos (show ((d + 1 : Nat) : Int) > 0 by omega), e1, e2]
    have e3 : i + (d + 1) = i + 1 + d := by omega
    rw [e3] at hi ⊢
    exact ih (i + 1) hi (by omega)
theorem l01Power_big {p : Int} (h : IsP p) {n : Nat} (hn : p ^ n ≤ 9223372036854775807) (hn' : n ≤ 1000) : Ev (fun k => spec_l01Power.f k p n) (p ^ n) := by
  unfold spec_l01Power.f
  have := l01Power_l h n 0 (by rw [Nat.zero_add]; exact hn) (by omega)
  rw [Int.pow_zero, Nat.zero_add] at this
  exact this
theorem l01Power_ev {p : Int} (h : IsP p) {n : Int} (hn : n ≤ 22) : Ev (fun k => spec_l01Power.f k p n) (p ^ n.toNat) := by
  by_cases h0 : 0 ≤ n
  · have := l01Power_big h (n := n.toNat) (by have := pow_le_22 h (n := n.toNat) (by omega); omega) (by omega)
    rw [Int.toNat_of_nonneg h0] at this
    exact this
  · unfold spec_l01Power.f
    refine Ev.step (fun k => by rw [spec_l01Power.l0]) ?_
    have e : n.toNat = 0 := by omega
    simp only [if_neg (show ¬ n > 0 by omega), e, Int.pow_zero]
    exact Ev.now _
theorem mod_ev {n m : Int} (hm : 0 < m) (hm' : m ≤ 4611686018427387904) : impl_mod.f n m = some (n % m) := by
  unfold impl_mod.f
  have hb := mod_between (n := n) hm
  rw [if_neg (show ¬ m = 0 by omega), wrap_id (by omega) (by omega), mod_eq hm]
theorem IsLattice_ev {p u m d : Int} :
    Ev (fun k => impl_IsLattice.f k p u m d) (decide (IsP p ∧ Lat p u m d)) := by
  unfold impl_IsLattice.f
  simp only [isPrime_eq, Option.bind_some]
  by_cases hp : IsP p
  · simp only [hp, decide_true, if_true]
    by_cases h1 : u ≥ 0
    · simp only [if_pos h1]
      by_cases h2 : u ≤ 12
      · simp only [if_pos h2]
        by_cases h3 : d ≥ 0
        · simp only [if_pos h3]
          by_cases h4 : d ≤ 12
          · simp only [if_pos h4]
            by_cases h5 : m ≥ 0
            · simp only [if_pos h5]
              rw [bnd (power_ev hp (by omega))]
              exact ev_dec (by unfold Lat; simp; omega)
            · simp only [if_neg h5]
              exact ev_dec (by unfold Lat; simp; omega)
          · simp only [if_neg h4]
            exact ev_dec (by unfold Lat; simp; omega)
        · simp only [if_neg h3]
          exact ev_dec (by unfold Lat; simp; omega)
      · simp only [if_neg h2]
        exact ev_dec (by unfold Lat; simp; omega)
    · simp only [if_neg h1]
      exact ev_dec (by unfold Lat; simp; omega)
  · simp only [hp, decide_false, if_neg Bool.false_ne_true]
    exact ev_dec (by simp)
theorem l03Is_ev {p u m d : Int} :
    Ev (fun k => spec_l03Is.f k p u m d) (decide (IsP p ∧ Lat p u m d)) := by
  unfold spec_l03Is.f
  simp only [l01Prime_eq, l01In_eq, Option.bind_some]
  have bad : ∀ {c : Prop} [Decidable c], ¬ c → Ev (fun k => spec_l03Is.j0 k p true u m d) (decide c) := by
    intro c _ hc
    refine Ev.step (fun k => by rw [spec_l03Is.j0]) ?_
    simp only [if_true]
    exact ev_some (by simp [hc])
  by_cases hp : IsP p
  · simp only [hp, decide_true, if_true]
    by_cases h1 : 0 ≤ u ∧ u ≤ 12
    · simp only [h1, decide_true, if_true, and_self]
      by_cases h2 : 0 ≤ d ∧ d ≤ 12
      · simp only [h2, decide_true, and_self, Bool.not_true]
        refine Ev.step (fun k => by rw [spec_l03Is.j0]) ?_
        simp only [if_neg Bool.false_ne_true]
        rw [bnd (l01Power_ev hp (by omega))]
        have hpw := pow_pos' hp u.toNat
        have hpw2 := pow_le_22 hp (n := u.toNat) (by omega)
        have e2 : wrap64 (p ^ u.toNat - 1) = p ^ u.toNat - 1 := wrap_id (by omega) (by omega)
        simp only [l01In_eq, Option.bind_some, e2]
        exact ev_dec (by unfold Lat; simp; omega)
      · simp only [h2, decide_false, Bool.not_false]
        exact bad (by unfold Lat; omega)
    · simp only [h1, decide_false, if_neg Bool.false_ne_true]
      exact bad (by unfold Lat; omega)
  · simp only [hp, decide_false, if_neg Bool.false_ne_true]
    exact bad (by simp)
def LatOk (p : Int) (b : S27) : Prop := Lat p b.f0 b.f1 b.f2
instance (p : Int) (b : S27) : Decidable (LatOk p b) := by unfold LatOk; infer_instance
theorem rd_lat_at (pre : List S27) (b : S27) (ys : List S27) : rd_T27 (pre ++ b :: ys) (pre.length : Int) = b := by
  unfold rd_T27
  simp [List.getD_eq_getElem?_getD]
theorem l03Code_l {p : Int} (hp : IsP p) : ∀ (ys pre : List S27), (pre ++ ys).length ≤ 1000 → Ev (fun k => spec_l03Code.l0 k p (pre ++ ys) pre.length) (if ∀ b ∈ ys, LatOk p b then 0 else 1) := by
  intro ys
  induction ys with
  | nil =>
    intro pre _
    refine Ev.step (fun k => by rw [spec_l03Code.l0]) ?_
    simp only [List.append_nil, if_neg (Int.lt_irrefl _)]
    exact ev_some (by simp)
  | cons b ys ih =>
    intro pre hl
    refine Ev.step (fun k => by rw [spec_l03Code.l0]) ?_
    have hl' : (pre ++ b :: ys).length = pre.length + (ys.length + 1) := by simp
    have h1 : (pre.length : Int) < ((pre ++ b :: ys).length : Int) := by omega
    simp only [if_pos h1, if_pos (show (0 : Int) ≤ (pre.length : Int) by omega), rd_lat_at]
    rw [bnd l03Is_ev]
    by_cases hB : Lat p b.f0 b.f1 b.f2
    · simp only [hp, hB, and_self, decide_true, if_true]
      have e : wrap64 ((pre.length : Int) + 1) = ((pre ++ [b]).length : Int) := by rw [wrap_id (by omega) (by omega)]; simp
      have := ih (pre ++ [b]) (by simpa using hl)
      rw [e]
      simp only [List.append_assoc, List.singleton_append] at this
      refine ev_eq this ?_
      have : (∀ c ∈ b :: ys, LatOk p c) ↔ (∀ c ∈ ys, LatOk p c) := by simp [LatOk, hB]
      simp only [this]
    · simp only [hp, hB, and_false, decide_false, if_neg Bool.false_ne_true]
      refine ev_some ?_
      rw [if_neg]
      intro hall
      exact hB (hall b (by simp))
theorem l03Code_ev {p : Int} {ys : List S27} (hl : ys.length ≤ 1000) : Ev (fun k => spec_l03Code.f k p ys) (if IsP p ∧ ∀ b ∈ ys, LatOk p b then 0 else 1) := by
  unfold spec_l03Code.f
  simp only [l01Prime_eq, Option.bind_some]
  by_cases hp : IsP p
  · simp only [hp, decide_true, if_true, true_and]
    exact l03Code_l hp ys [] (by simpa using hl)
  · simp only [hp, decide_false, if_neg Bool.false_ne_true, false_and, if_false]
    exact Ev.now _
theorem l03Code1 {p l t d : Int} : Ev (fun k => spec_l03Code.f k p [⟨l, t, d⟩]) (if IsP p ∧ Lat p l t d then 0 else 1) := by
  refine ev_eq (l03Code_ev (by simp)) ?_
  simp [LatOk]
theorem rd_at (pre : List Int) (b : Int) (ys : List Int) : rd (pre ++ b :: ys) (pre.length : Int) = b := by
  unfold rd
  simp [List.getD_eq_getElem?_getD]
theorem l01MulMod_eq {a b m : Int} (h0 : 0 < m) (h1 : m ≤ 100000000000) : spec_l01MulMod.f a b m = some (a * b % m) := by
  unfold spec_l01MulMod.f
  have ha := mod_between (n := a) h0
  have hb := mod_between (n := b) h0
  have ea : wrap64 (Int.tmod a m + m) = Int.tmod a m + m := wrap_id (by omega) (by omega)
  have eb : wrap64 (Int.tmod b m + m) = Int.tmod b m + m := wrap_id (by omega) (by omega)
  have a0 := Int.emod_nonneg a (Int.ne_of_gt h0)
  have a1 := Int.emod_lt_of_pos a h0
  have b0 := Int.emod_nonneg b (Int.ne_of_gt h0)
  have b1 := Int.emod_lt_of_pos b h0
  rw [if_neg (Int.ne_of_gt h0)]
  simp only [ea, eb, mod_eq h0]
  rw [Int.tmod_eq_emod_of_nonneg b0, Int.tdiv_eq_ediv_of_nonneg b0]
  have hq0 : 0 ≤ b % m / 1000000 := by omega
  have hq1 : b % m / 1000000 ≤ 100000 := by omega
  have hr0 : 0 ≤ b % m % 1000000 := by omega
  have hr1 : b % m % 1000000 ≤ 1000000 := by omega
  have eq : wrap64 (b % m / 1000000) = b % m / 1000000 := wrap_id (by omega) (by omega)
  rw [eq]
  have p1 : 0 ≤ a % m * (b % m / 1000000) := Int.mul_nonneg a0 hq0
  have p2 : a % m * (b % m / 1000000) ≤ 100000000000 * 100000 := Int.mul_le_mul (by omega) hq1 hq0 (by omega)
  have p3 : 0 ≤ a % m * (b % m % 1000000) := Int.mul_nonneg a0 hr0
  have p4 : a % m * (b % m % 1000000) ≤ 100000000000 * 1000000 := Int.mul_le_mul (by omega) hr1 hr0 (by omega)
  rw [wrap_id (x := a % m * (b % m / 1000000)) (by omega) (by omega), wrap_id (x := a % m * (b % m % 1000000)) (by omega) (by omega)]
  rw [Int.tmod_eq_emod_of_nonneg p1, Int.tmod_eq_emod_of_nonneg p3]
  have c0 := Int.emod_nonneg (a % m * (b % m / 1000000)) (Int.ne_of_gt h0)
  have c1 := Int.emod_lt_of_pos (a % m * (b % m / 1000000)) h0
  have d0 := Int.emod_nonneg (a % m * (b % m % 1000000)) (Int.ne_of_gt h0)
  have d1 := Int.emod_lt_of_pos (a % m * (b % m % 1000000)) h0
  rw [wrap_id (x := a % m * (b % m / 1000000) % m * 1000000) (by omega) (by omega)]
  have e0 : 0 ≤ a % m * (b % m / 1000000) % m * 1000000 := by omega
  rw [Int.tmod_eq_emod_of_nonneg e0]
  have f0 := Int.emod_nonneg (a % m * (b % m / 1000000) % m * 1000000) (Int.ne_of_gt h0)
  have f1 := Int.emod_lt_of_pos (a % m * (b % m / 1000000) % m * 1000000) h0
  rw [wrap_id (by omega) (by omega), Int.tmod_eq_emod_of_nonneg (by omega), mulmod_eq]
set_option maxRecDepth 100000 in
theorem len8_dec : ∀ n : Fin 256, 1 ≤ n.val → 1 ≤ (bt (⟨#[0, 1, 2, 2, 3, 3, 3, 3, 4, 4, 4, 4, 4, 4, 4, 4, 5, 5, 5, 5, 5, 5, 5, 5, 5, 5, 5, 5, 5, 5, 5, 5, 6, 6, 6, 6, 6, 6, 6, 6, 6, 6, 6, 6, 6, 6, 6, 6, 6, 6, 6, 6, 6, 6, 6, 6, 6, 6, 6, 6, 6, 6, 6, 6, 7, 7, 7, 7, 7, 7, 7, 7, 7, 7, 7, 7, 7, 7, 7, 7, 7, 7, 7, 7, 7, 7, 7, 7, 7, 7, 7, 7, 7, 7, 7, 7, 7, 7, 7, 7, 7, 7, 7, 7, 7, 7, 7, 7, 7, 7, 7, 7, 7, 7, 7, 7, 7, 7, 7, 7, 7, 7, 7, 7, 7, 7, 7, 7, 8, 8, 8, 8, 8, 8, 8, 8, 8, 8, 8, 8, 8, 8, 8, 8, 8, 8, 8, 8, 8, 8, 8, 8, 8, 8, 8, 8, 8, 8, 8, 8, 8, 8, 8, 8, 8, 8, 8, 8, 8, 8, 8, 8, 8, 8, 8, 8, 8, 8, 8, 8, 8, 8, 8, 8, 8, 8, 8, 8, 8, 8, 8, 8, 8, 8, 8, 8, 8, 8, 8, 8, 8, 8, 8, 8, 8, 8, 8, 8, 8, 8, 8, 8, 8, 8, 8, 8, 8, 8, 8, 8, 8, 8, 8, 8, 8, 8, 8, 8, 8, 8, 8, 8, 8, 8, 8, 8, 8, 8, 8, 8, 8, 8, 8, 8, 8, 8, 8, 8, 8, 8, 8, 8, 8, 8, 8, 8]⟩ : ByteArray) (n.val : Int)).toNat ∧ 0 ≤ bt (⟨#[0, 1, 2, 2, 3, 3, 3, 3, 4, 4, 4, 4, 4, 4, 4, 4, 5, 5, 5, 5, 5, 5, 5, 5, 5, 5, 5, 5, 5, 5, 5, 5, 6, 6, 6, 6, 6, 6, 6, 6, 6, 6, 6, 6, 6, 6, 6, 6, 6, 6, 6, 6, 6, 6, 6, 6, 6, 6, 6, 6, 6, 6, 6, 6, 7, 7, 7, 7, 7, 7, 7, 7, 7, 7, 7, 7, 7, 7, 7, 7, 7, 7, 7, 7, 7, 7, 7, 7, 7, 7, 7, 7, 7, 7, 7, 7, 7, 7, 7, 7, 7, 7, 7, 7, 7, 7, 7, 7, 7, 7, 7, 7, 7, 7, 7, 7, 7, 7, 7, 7, 7, 7, 7, 7, 7, 7, 7, 7, 8, 8, 8, 8, 8, 8, 8, 8, 8, 8, 8, 8, 8, 8, 8, 8, 8, 8, 8, 8, 8, 8, 8, 8, 8, 8, 8, 8, 8, 8, 8, 8, 8, 8, 8, 8, 8, 8, 8, 8, 8, 8, 8, 8, 8, 8, 8, 8, 8, 8, 8, 8, 8, 8, 8, 8, 8, 8, 8, 8, 8, 8, 8, 8, 8, 8, 8, 8, 8, 8, 8, 8, 8, 8, 8, 8, 8, 8, 8, 8, 8, 8, 8, 8, 8, 8, 8, 8, 8, 8, 8, 8, 8, 8, 8, 8, 8, 8, 8, 8, 8, 8, 8, 8, 8, 8, 8, 8, 8, 8, 8, 8, 8, 8, 8, 8, 8, 8, 8, 8, 8, 8, 8, 8, 8, 8, 8, 8]⟩ : ByteArray) (n.val : Int) ∧ (bt (⟨#[0, 1, 2, 2, 3, 3, 3, 3, 4, 4, 4, 4, 4, 4, 4, 4, 5, 5, 5, 5, 5, 5, 5, 5, 5, 5, 5, 5, 5, 5, 5, 5, 6, 6, 6, 6, 6, 6, 6, 6, 6, 6, 6, 6, 6, 6, 6, 6, 6, 6, 6, 6, 6, 6, 6, 6, 6, 6, 6, 6, 6, 6, 6, 6, 7, 7, 7, 7, 7, 7, 7, 7, 7, 7, 7, 7, 7, 7, 7, 7, 7, 7, 7, 7, 7, 7, 7, 7, 7, 7, 7, 7, 7, 7, 7, 7, 7, 7, 7, 7, 7, 7, 7, 7, 7, 7, 7, 7, 7, 7, 7, 7, 7, 7, 7, 7, 7, 7, 7, 7, 7, 7, 7, 7, 7, 7, 7, 7, 8, 8, 8, 8, 8, 8, 8, 8, 8, 8, 8, 8, 8, 8, 8, 8, 8, 8, 8, 8, 8, 8, 8, 8, 8, 8, 8, 8, 8, 8, 8, 8, 8, 8, 8, 8, 8, 8, 8, 8, 8, 8, 8, 8, 8, 8, 8, 8, 8, 8, 8, 8, 8, 8, 8, 8, 8, 8, 8, 8, 8, 8, 8, 8, 8, 8, 8, 8, 8, 8, 8, 8, 8, 8, 8, 8, 8, 8, 8, 8, 8, 8, 8, 8, 8, 8, 8, 8, 8, 8, 8, 8, 8, 8, 8, 8, 8, 8, 8, 8, 8, 8, 8, 8, 8, 8, 8, 8, 8, 8, 8, 8, 8, 8, 8, 8, 8, 8, 8, 8, 8, 8, 8, 8, 8, 8, 8, 8]⟩ : ByteArray) (n.val : Int)).toNat ≤ 8 ∧
    2 ^ ((bt (⟨#[0, 1, 2, 2, 3, 3, 3, 3, 4, 4, 4, 4, 4, 4, 4, 4, 5, 5, 5, 5, 5, 5, 5, 5, 5, 5, 5, 5, 5, 5, 5, 5, 6, 6, 6, 6, 6, 6, 6, 6, 6, 6, 6, 6, 6, 6, 6, 6, 6, 6, 6, 6, 6, 6, 6, 6, 6, 6, 6, 6, 6, 6, 6, 6, 7, 7, 7, 7, 7, 7, 7, 7, 7, 7, 7, 7, 7, 7, 7, 7, 7, 7, 7, 7, 7, 7, 7, 7, 7, 7, 7, 7, 7, 7, 7, 7, 7, 7, 7, 7, 7, 7, 7, 7, 7, 7, 7, 7, 7, 7, 7, 7, 7, 7, 7, 7, 7, 7, 7, 7, 7, 7, 7, 7, 7, 7, 7, 7, 8, 8, 8, 8, 8, 8, 8, 8, 8, 8, 8, 8, 8, 8, 8, 8, 8, 8, 8, 8, 8, 8, 8, 8, 8, 8, 8, 8, 8, 8, 8, 8, 8, 8, 8, 8, 8, 8, 8, 8, 8, 8, 8, 8, 8, 8, 8, 8, 8, 8, 8, 8, 8, 8, 8, 8, 8, 8, 8, 8, 8, 8, 8, 8, 8, 8, 8, 8, 8, 8, 8, 8, 8, 8, 8, 8, 8, 8, 8, 8, 8, 8, 8, 8, 8, 8, 8, 8, 8, 8, 8, 8, 8, 8, 8, 8, 8, 8, 8, 8, 8, 8, 8, 8, 8, 8, 8, 8, 8, 8, 8, 8, 8, 8, 8, 8, 8, 8, 8, 8, 8, 8, 8, 8, 8, 8, 8, 8]⟩ : ByteArray) (n.val : Int)).toNat - 1) ≤ n.val ∧ n.val < 2 ^ (bt (⟨#[0, 1, 2, 2, 3, 3, 3, 3, 4, 4, 4, 4, 4, 4, 4, 4, 5, 5, 5, 5, 5, 5, 5, 5, 5, 5, 5, 5, 5, 5, 5, 5, 6, 6, 6, 6, 6, 6, 6, 6, 6, 6, 6, 6, 6, 6, 6, 6, 6, 6, 6, 6, 6, 6, 6, 6, 6, 6, 6, 6, 6, 6, 6, 6, 7, 7, 7, 7, 7, 7, 7, 7, 7, 7, 7, 7, 7, 7, 7, 7, 7, 7, 7, 7, 7, 7, 7, 7, 7, 7, 7, 7, 7, 7, 7, 7, 7, 7, 7, 7, 7, 7, 7, 7, 7, 7, 7, 7, 7, 7, 7, 7, 7, 7, 7, 7, 7, 7, 7, 7, 7, 7, 7, 7, 7, 7, 7, 7, 8, 8, 8, 8, 8, 8, 8, 8, 8, 8, 8, 8, 8, 8, 8, 8, 8, 8, 8, 8, 8, 8, 8, 8, 8, 8, 8, 8, 8, 8, 8, 8, 8, 8, 8, 8, 8, 8, 8, 8, 8, 8, 8, 8, 8, 8, 8, 8, 8, 8, 8, 8, 8, 8, 8, 8, 8, 8, 8, 8, 8, 8, 8, 8, 8, 8, 8, 8, 8, 8, 8, 8, 8, 8, 8, 8, 8, 8, 8, 8, 8, 8, 8, 8, 8, 8, 8, 8, 8, 8, 8, 8, 8, 8, 8, 8, 8, 8, 8, 8, 8, 8, 8, 8, 8, 8, 8, 8, 8, 8, 8, 8, 8, 8, 8, 8, 8, 8, 8, 8, 8, 8, 8, 8, 8, 8, 8, 8]⟩ : ByteArray) (n.val : Int)).toNat := by decide +kernel
set_option maxRecDepth 100000 in
theorem len8_tab {i : Int} (h0 : 1 ≤ i) (h1 : i < 256) : ∃ l : Nat, bt (⟨#[0, 1, 2, 2, 3, 3, 3, 3, 4, 4, 4, 4, 4, 4, 4, 4, 5, 5, 5, 5, 5, 5, 5, 5, 5, 5, 5, 5, 5, 5, 5, 5, 6, 6, 6, 6, 6, 6, 6, 6, 6, 6, 6, 6, 6, 6, 6, 6, 6, 6, 6, 6, 6, 6, 6, 6, 6, 6, 6, 6, 6, 6, 6, 6, 7, 7, 7, 7, 7, 7, 7, 7, 7, 7, 7, 7, 7, 7, 7, 7, 7, 7, 7, 7, 7, 7, 7, 7, 7, 7, 7, 7, 7, 7, 7, 7, 7, 7, 7, 7, 7, 7, 7, 7, 7, 7, 7, 7, 7, 7, 7, 7, 7, 7, 7, 7, 7, 7, 7, 7, 7, 7, 7, 7, 7, 7, 7, 7, 8, 8, 8, 8, 8, 8, 8, 8, 8, 8, 8, 8, 8, 8, 8, 8, 8, 8, 8, 8, 8, 8, 8, 8, 8, 8, 8, 8, 8, 8, 8, 8, 8, 8, 8, 8, 8, 8, 8, 8, 8, 8, 8, 8, 8, 8, 8, 8, 8, 8, 8, 8, 8, 8, 8, 8, 8, 8, 8, 8, 8, 8, 8, 8, 8, 8, 8, 8, 8, 8, 8, 8, 8, 8, 8, 8, 8, 8, 8, 8, 8, 8, 8, 8, 8, 8, 8, 8, 8, 8, 8, 8, 8, 8, 8, 8, 8, 8, 8, 8, 8, 8, 8, 8, 8, 8, 8, 8, 8, 8, 8, 8, 8, 8, 8, 8, 8, 8, 8, 8, 8, 8, 8, 8, 8, 8, 8, 8]⟩ : ByteArray) i = l ∧ IsLen i l ∧ l ≤ 8 := by
  obtain ⟨n, rfl⟩ := Int.eq_ofNat_of_zero_le (show 0 ≤ i by omega)
  have h := len8_dec ⟨n, by omega⟩ (by simp only; omega)
  simp only at h
  refine ⟨_, (Int.toNat_of_nonneg h.2.1).symm, ⟨h.1, ?_, ?_⟩, h.2.2.1⟩
  · have := h.2.2.2.1
    exact_mod_cast this
  · have := h.2.2.2.2
    exact_mod_cast this
set_option maxRecDepth 100000 in
theorem Len64_j {x n : Int} (h0 : 1 ≤ x) (h1 : x < 4294967296) (hn : 0 ≤ n ∧ n ≤ 32) : ∃ l : Nat, Ev (fun k => bits_Len64.j0 k x n) (n + l) ∧ IsLen x l ∧ l ≤ 32 := by
  by_cases h16 : x ≥ 65536
  · by_cases h8 : x / 65536 ≥ 256
    · have e : x / 65536 / 256 % 256 = x / 65536 / 256 := by omega
      obtain ⟨l, hl, hi, hb⟩ := len8_tab (i := x / 65536 / 256) (by omega) (by omega)
      refine ⟨24 + l, ?_, ?_, by omega⟩
      · refine Ev.step (fun k => by rw [bits_Len64.j0]) ?_
        simp only [if_pos h16, if_pos h8, e, if_pos (show 0 ≤ x / 65536 / 256 by omega), if_pos (show x / 65536 / 256 < 256 by omega), hl]
        rw [wrap_id (x := n + 16) (by omega) (by omega), wrap_id (x := n + 16 + 8) (by omega) (by omega), wrap_id (x := (l : Int)) (by omega) (by omega), wrap_id (by omega) (by omega)]
        exact ev_some (by omega)
      · have e2 : x / 2 ^ 24 = x / 65536 / 256 := by omega
        refine IsLen.up 24 ?_
        rw [e2]; exact hi
    · have e : x / 65536 % 256 = x / 65536 := by omega
      obtain ⟨l, hl, hi, hb⟩ := len8_tab (i := x / 65536) (by omega) (by omega)
      refine ⟨16 + l, ?_, ?_, by omega⟩
      · refine Ev.step (fun k => by rw [bits_Len64.j0]) ?_
        simp only [if_pos h16, if_neg h8, e, if_pos (show 0 ≤ x / 65536 by omega), if_pos (show x / 65536 < 256 by omega), hl]
        rw [wrap_id (x := n + 16) (by omega) (by omega), wrap_id (x := (l : Int)) (by omega) (by omega), wrap_id (by omega) (by omega)]
        exact ev_some (by omega)
      · refine IsLen.up 16 ?_
        exact hi
  · by_cases h8 : x ≥ 256
    · have e : x / 256 % 256 = x / 256 := by omega
      obtain ⟨l, hl, hi, hb⟩ := len8_tab (i := x / 256) (by omega) (by omega)
      refine ⟨8 + l, ?_, ?_, by omega⟩
      · refine Ev.step (fun k => by rw [bits_Len64.j0]) ?_
        simp only [if_neg h16, if_pos h8, e, if_pos (show 0 ≤ x / 256 by omega), if_pos (show x / 256 < 256 by omega), hl]
        rw [wrap_id (x := n + 8) (by omega) (by omega), wrap_id (x := (l : Int)) (by omega) (by omega), wrap_id (by omega) (by omega)]
        exact ev_some (by omega)
      · refine IsLen.up 8 ?_
        exact hi
    · have e : x % 256 = x := by omega
      obtain ⟨l, hl, hi, hb⟩ := len8_tab (i := x) (by omega) (by omega)
      refine ⟨l, ?_, hi, by omega⟩
      refine Ev.step (fun k => by rw [bits_Len64.j0]) ?_
      simp only [if_neg h16, if_neg h8, e, if_pos (show 0 ≤ x by omega), if_pos (show x < 256 by omega), hl]
      rw [wrap_id (x := (l : Int)) (by omega) (by omega), wrap_id (by omega) (by omega)]
      exact Ev.now _
theorem Len64_ev {x : Int} (h0 : 1 ≤ x) (h1 : x < 18446744073709551616) : ∃ l : Nat, Ev (fun k => bits_Len64.f k x) l ∧ IsLen x l ∧ l ≤ 64 := by
  unfold bits_Len64.f
  by_cases h32 : x ≥ 4294967296
  · obtain ⟨l, hl, hi, hb⟩ := Len64_j (x := x / 4294967296) (n := 32) (by omega) (by omega) (by omega)
    refine ⟨32 + l, ?_, IsLen.up 32 hi, by omega⟩
    simp only [if_pos h32]
    exact ev_eq hl (by omega)
  · obtain ⟨l, hl, hi, hb⟩ := Len64_j (x := x) (n := 0) (by omega) (by omega) (by omega)
    refine ⟨l, ?_, hi, by omega⟩
    simp only [if_neg h32]
    exact ev_eq hl (by omega)
theorem Mul64_eq {a b : Int} (a0 : 0 ≤ a) (a1 : a < 18446744073709551616) (b0 : 0 ≤ b) (b1 : b < 18446744073709551616) : bits_Mul64.f a b = some (a * b / 18446744073709551616, a * b % 18446744073709551616) := by
  unfold bits_Mul64.f
  rw [u64_mask32 a0 a1, u64_mask32 b0 b1]
  have hah : 0 ≤ a / 4294967296 ∧ a / 4294967296 ≤ 4294967295 := by omega
  have hal : 0 ≤ a % 4294967296 ∧ a % 4294967296 ≤ 4294967295 := by omega
  have hbh : 0 ≤ b / 4294967296 ∧ b / 4294967296 ≤ 4294967295 := by omega
  have hbl : 0 ≤ b % 4294967296 ∧ b % 4294967296 ≤ 4294967295 := by omega
  have hab : a * b = (a / 4294967296) * (b / 4294967296) * 18446744073709551616 + ((a / 4294967296) * (b % 4294967296) + (a % 4294967296) * (b / 4294967296)) * 4294967296 + (a % 4294967296) * (b % 4294967296) := by
    have ea : a = 4294967296 * (a / 4294967296) + a % 4294967296 := by omega
    have eb : b = 4294967296 * (b / 4294967296) + b % 4294967296 := by omega
    generalize a / 4294967296 = x1 at *
    generalize a % 4294967296 = x0 at *
    generalize b / 4294967296 = y1 at *
    generalize b % 4294967296 = y0 at *
    rw [ea, eb]
    simp only [Int.add_mul, Int.mul_add]
    have e1 : 4294967296 * x1 * (4294967296 * y1) = x1 * y1 * 18446744073709551616 := by
      rw [show (18446744073709551616 : Int) = 4294967296 * 4294967296 by decide]
      simp only [Int.mul_assoc, Int.mul_comm, Int.mul_left_comm]
    have e2 : 4294967296 * x1 * y0 = x1 * y0 * 4294967296 := by rw [Int.mul_assoc, Int.mul_comm]
    have e3 : x0 * (4294967296 * y1) = x0 * y1 * 4294967296 := by rw [Int.mul_left_comm, Int.mul_comm]
    rw [e1, e2, e3]
    omega
  have bound : ∀ {x y : Int}, 0 ≤ x ∧ x ≤ 4294967295 → 0 ≤ y ∧ y ≤ 4294967295 → 0 ≤ x * y ∧ x * y ≤ 18446744065119617025 := by
    intro x y hx hy
    have a := Int.mul_le_mul hx.2 hy.2 hy.1 (by omega)
    exact ⟨Int.mul_nonneg hx.1 hy.1, by omega⟩
  have p11 := bound hah hbh
  have p10 := bound hah hbl
  have p01 := bound hal hbh
  have p00 := bound hal hbl
  generalize (a / 4294967296) * (b / 4294967296) = q11 at *
  generalize (a / 4294967296) * (b % 4294967296) = q10 at *
  generalize (a % 4294967296) * (b / 4294967296) = q01 at *
  generalize (a % 4294967296) * (b % 4294967296) = q00 at *
  rw [hab]
  have w1 : IntKind.u64.wrap q11 = q11 := wrapu_id (by omega) (by omega)
  have w2 : IntKind.u64.wrap q10 = q10 := wrapu_id (by omega) (by omega)
  have w3 : IntKind.u64.wrap q01 = q01 := wrapu_id (by omega) (by omega)
  have w4 : IntKind.u64.wrap q00 = q00 := wrapu_id (by omega) (by omega)
  rw [w1, w2, w3, w4]
  have w5 : IntKind.u64.wrap (q10 + q00 / 4294967296) = q10 + q00 / 4294967296 := wrapu_id (by omega) (by omega)
  rw [w5, u64_mask32 (by omega) (by omega)]
  have w6 : IntKind.u64.wrap ((q10 + q00 / 4294967296) % 4294967296 + q01) = (q10 + q00 / 4294967296) % 4294967296 + q01 := wrapu_id (by omega) (by omega)
  have w7 : IntKind.u64.wrap (q11 + (q10 + q00 / 4294967296) / 4294967296) = q11 + (q10 + q00 / 4294967296) / 4294967296 := wrapu_id (by omega) (by omega)
  rw [w6, w7, wrapu, wrapu]
  congr 2
  omega
theorem Div64_l0 {Y s y1 y0 u v w : Int} {R : Int × Int} (hy : Y = y1 * 4294967296 + y0) (hy1 : 2147483648 ≤ y1) (hy1' : y1 < 4294967296) (hy0 : 0 ≤ y0) (hy0' : y0 < 4294967296) (huY : u < Y) (hv : 0 ≤ v) (hv' : v < 4294967296)
    (hend : Ev (fun k => bits_Div64.j2 k Y s y1 y0 u v w ((u * 4294967296 + v) / Y)) R) : ∀ (n : Nat) (q r : Int), (4294967296 - r).toNat ≤ n → Guess Y y1 u (u * 4294967296 + v) q r → Ev (fun k => bits_Div64.l0 k Y s y1 y0 u v w q r) R := by
  have hY : 0 < Y := by omega
  intro n
  induction n with
  | zero => intro q r hn hg; obtain ⟨_, _, h3, h4, _⟩ := hg; omega
  | succ n ih =>
    intro q r hn hg
    have hg' := hg
    obtain ⟨g1, g2, g3, g4, g5, g6⟩ := hg'
    have go : ∀ b : Bool, (b = true ↔ 4294967296 ≤ q ∨ 4294967296 * r + v < q * y0) → Ev (fun k => bits_Div64.j1 k Y s y1 y0 u v w q r b) R := by
      intro b hb
      refine Ev.step (fun k => by rw [bits_Div64.j1]) ?_
      by_cases hc : 4294967296 ≤ q ∨ 4294967296 * r + v < q * y0
      · obtain ⟨d1, d2, d3⟩ := guess_down hy hY huY hv hv' hg hc
        rw [wrapu_id (n := r + y1) (by omega) (by omega), wrapu_id (n := q - 1) (by omega) (by omega)]
        simp only [hb.2 hc, if_true]
        by_cases hr : r + y1 ≥ 4294967296
        · simp only [if_pos hr]
          have hstop : q - 1 = (u * 4294967296 + v) / Y := by
            have h3 : q - 1 ≤ (u * 4294967296 + v) / Y := by
              rw [Int.le_ediv_iff_mul_le hY, hy, Int.mul_add, ← Int.mul_assoc]
              have h4 : (q - 1) * y0 ≤ 4294967296 * 4294967295 := Int.mul_le_mul (by omega) (by omega) hy0 (by omega)
              omega
            omega
          rw [hstop]; exact hend
        · simp only [if_neg hr]
          exact ih (q - 1) (r + y1) (by omega) ⟨d2, d1, by omega, by omega, by omega, by omega⟩
      · have hbf : b = false := by cases b with
          | true => exact absurd (hb.1 rfl) hc
          | false => rfl
        simp only [hbf, if_neg Bool.false_ne_true]
        have := guess_stop hy hY hg (by omega)
        rw [this]; exact hend
    refine Ev.step (fun k => by rw [bits_Div64.l0]) ?_
    by_cases hq : q ≥ 4294967296
    · simp only [if_pos hq]
      exact go _ (by simp; omega)
    · simp only [if_neg hq]
      have hqy : 0 ≤ q * y0 ∧ q * y0 ≤ 4294967295 * 4294967295 := ⟨Int.mul_nonneg g5 hy0, Int.mul_le_mul (by omega) (by omega) hy0 (by omega)⟩
      rw [wrapu_id (n := q * y0) (by omega) (by omega), wrapu_id (n := 4294967296 * r) (by omega) (by omega), wrapu_id (n := 4294967296 * r + v) (by omega) (by omega)]
      exact go _ (by simp; omega)
theorem Div64_l1 {Y y1 y0 u v q1 : Int} {s : Nat} (hs : s ≤ 64) (hy : Y = y1 * 4294967296 + y0) (hy1 : 2147483648 ≤ y1) (hy1' : y1 < 4294967296) (hy0 : 0 ≤ y0) (hy0' : y0 < 4294967296) (hu : 0 ≤ u) (huY : u < Y) (hv : 0 ≤ v) (hv' : v < 4294967296)
    (hq1 : 0 ≤ q1) (hq1' : q1 < 4294967296) : ∀ (n : Nat) (q r : Int), (4294967296 - r).toNat ≤ n → Guess Y y1 u (u * 4294967296 + v) q r →
    Ev (fun k => bits_Div64.l1 k Y s y1 y0 v q1 r u q) (q1 * 4294967296 + (u * 4294967296 + v) / Y, (u * 4294967296 + v) % Y / 2 ^ s) := by
  have hY : 0 < Y := by omega
  have hlast : ∀ q : Int, q = (u * 4294967296 + v) / Y → IntKind.u64.wrap (IntKind.u64.wrap (q1 * 4294967296) + q) = q1 * 4294967296 + (u * 4294967296 + v) / Y ∧
      shr .u64 (IntKind.u64.wrap (IntKind.u64.wrap (IntKind.u64.wrap (u * 4294967296) + v) - IntKind.u64.wrap (q * Y))) s = (u * 4294967296 + v) % Y / 2 ^ s := by
    intro q hq
    have hqr := quot_rem (n := u * 4294967296 + v) hY
    have hr0 := Int.emod_nonneg (u * 4294967296 + v) (Int.ne_of_gt hY)
    have hr1 := Int.emod_lt_of_pos (u * 4294967296 + v) hY
    have hq0 : 0 ≤ (u * 4294967296 + v) / Y := Int.ediv_nonneg (by omega) (by omega)
    have hqlt : (u * 4294967296 + v) / Y < 4294967296 := by rw [Int.ediv_lt_iff_lt_mul hY]; omega
    rw [shr_u64 hs]
    constructor
    · rw [wrapu_id (n := q1 * 4294967296) (by omega) (by omega), wrapu_id (by omega) (by omega), hq]
    · congr 1
      rw [hq]
      simp only [wrapu]
      generalize (u * 4294967296 + v) / Y * Y = P at *
      generalize (u * 4294967296 + v) % Y = Q at *
      omega
  intro n
  induction n with
  | zero => intro q r hn hg; obtain ⟨_, _, h3, h4, _⟩ := hg; omega
  | succ n ih =>
    intro q r hn hg
    have hg' := hg
    obtain ⟨g1, g2, g3, g4, g5, g6⟩ := hg'
    have hs0 : (0 : Int) ≤ (s : Int) := Int.natCast_nonneg s
    have go : ∀ b : Bool, (b = true ↔ 4294967296 ≤ q ∨ 4294967296 * r + v < q * y0) → Ev (fun k => bits_Div64.j4 k Y s y1 y0 v q1 r u q b) (q1 * 4294967296 + (u * 4294967296 + v) / Y, (u * 4294967296 + v) % Y / 2 ^ s) := by
      intro b hb
      refine Ev.step (fun k => by rw [bits_Div64.j4]) ?_
      by_cases hc : 4294967296 ≤ q ∨ 4294967296 * r + v < q * y0
      · obtain ⟨d1, d2, d3⟩ := guess_down hy hY huY hv hv' hg hc
        rw [wrapu_id (n := r + y1) (by omega) (by omega), wrapu_id (n := q - 1) (by omega) (by omega)]
        simp only [hb.2 hc, if_true]
        by_cases hr : r + y1 ≥ 4294967296
        · simp only [if_pos hr, if_pos hs0]
          have hstop : q - 1 = (u * 4294967296 + v) / Y := by
            have h3 : q - 1 ≤ (u * 4294967296 + v) / Y := by
              rw [Int.le_ediv_iff_mul_le hY, hy, Int.mul_add, ← Int.mul_assoc]
              have h4 : (q - 1) * y0 ≤ 4294967296 * 4294967295 := Int.mul_le_mul (by omega) (by omega) hy0 (by omega)
              omega
            omega
          obtain ⟨l1, l2⟩ := hlast (q - 1) hstop
          rw [l1, l2]
          exact Ev.now _
        · simp only [if_neg hr]
          exact ih (q - 1) (r + y1) (by omega) ⟨d2, d1, by omega, by omega, by omega, by omega⟩
      · have hbf : b = false := by cases b with
          | true => exact absurd (hb.1 rfl) hc
          | false => rfl
        simp only [hbf, if_neg Bool.false_ne_true, if_pos hs0]
        have hstop := guess_stop hy hY hg (by omega)
        obtain ⟨l1, l2⟩ := hlast q hstop
        rw [l1, l2]
        exact Ev.now _
    refine Ev.step (fun k => by rw [bits_Div64.l1]) ?_
    by_cases hq : q ≥ 4294967296
    · simp only [if_pos hq]
      exact go _ (by simp; omega)
    · simp only [if_neg hq]
      have hqy : 0 ≤ q * y0 ∧ q * y0 ≤ 4294967295 * 4294967295 := ⟨Int.mul_nonneg g5 hy0, Int.mul_le_mul (by omega) (by omega) hy0 (by omega)⟩
      rw [wrapu_id (n := q * y0) (by omega) (by omega), wrapu_id (n := 4294967296 * r) (by omega) (by omega), wrapu_id (n := 4294967296 * r + v) (by omega) (by omega)]
      exact go _ (by simp; omega)
theorem Div64_ev {hi lo y : Int} (h0 : 0 ≤ hi) (h1 : hi < y) (hy : y < 18446744073709551616) (l0 : 0 ≤ lo) (l1 : lo < 18446744073709551616) :
    Ev (fun k => bits_Div64.f k hi lo y) ((hi * 18446744073709551616 + lo) / y, (hi * 18446744073709551616 + lo) % y) := by
  unfold bits_Div64.f
  simp only [if_neg (show ¬ y = 0 by omega), if_neg (show ¬ y ≤ hi by omega)]
  by_cases hz : hi = 0
  · simp only [if_pos hz]
    refine ev_some ?_
    rw [hz, Int.zero_mul, Int.zero_add, Int.tdiv_eq_ediv_of_nonneg l0, Int.tmod_eq_emod_of_nonneg l0, wrapu_id (Int.ediv_nonneg l0 (by omega))]
    have := Int.ediv_le_self y l0
    omega
  · obtain ⟨L, hL, ⟨i1, i2, i3⟩, hL64⟩ := Len64_ev (x := y) (by omega) hy
    have hlz : Ev (fun k => bits_LeadingZeros64.f k y) ((64 - L : Nat) : Int) := by
      unfold bits_LeadingZeros64.f
      rw [bnd hL]
      exact ev_some (by rw [wrap_id (by omega) (by omega)]; omega)
    simp only [if_neg hz]
    rw [bnd hlz]
    generalize hs : 64 - L = s
    have hs64 : s ≤ 63 := by omega
    have eL : L = 64 - s := by omega
    subst eL
    have w1 : IntKind.u64.wrap ((s : Nat) : Int) = s := wrapu_id (by omega) (by omega)
    have w2 : IntKind.u64.wrap (64 - (s : Int)) = ((64 - s : Nat) : Int) := by rw [wrapu_id (by omega) (by omega)]; omega
    simp only [w1, w2]
    rw [shl_u64 (x := y) (by omega), shl_u64 (x := hi) (by omega), shl_u64 (x := lo) (by omega), shr_u64 (x := lo) (s := 64 - s) (by omega)]
    have hS := two_pow_pos' s
    have hT := two_pow_pos' (64 - s)
    have hST : (2 : Int) ^ (64 - s) * 2 ^ s = 18446744073709551616 := by
      rw [← Int.pow_add]
      have : 64 - s + s = 64 := by omega
      rw [this]; decide
    have hST1 : (2 : Int) ^ (64 - s - 1) * 2 ^ s = 9223372036854775808 := by
      rw [← Int.pow_add]
      have : 64 - s - 1 + s = 63 := by omega
      rw [this]; decide
    have hY1 : y * 2 ^ s < 18446744073709551616 := by rw [← hST]; exact Int.mul_lt_mul_of_pos_right i3 hS
    have hY0 : 9223372036854775808 ≤ y * 2 ^ s := by rw [← hST1]; exact Int.mul_le_mul_of_nonneg_right i2 (Int.le_of_lt hS)
    have hH0 : 0 ≤ hi * 2 ^ s := Int.mul_nonneg h0 (Int.le_of_lt hS)
    have hH1 : hi * 2 ^ s + 2 ^ s ≤ y * 2 ^ s := by
      have := Int.mul_le_mul_of_nonneg_right (show hi + 1 ≤ y by omega) (Int.le_of_lt hS)
      rw [Int.add_mul, Int.one_mul] at this
      exact this
    have eY : y * 2 ^ s % 18446744073709551616 = y * 2 ^ s := Int.emod_eq_of_lt (by omega) hY1
    have eH : hi * 2 ^ s % 18446744073709551616 = hi * 2 ^ s := Int.emod_eq_of_lt hH0 (by omega)
    have hq0 : 0 ≤ lo / 2 ^ (64 - s) := Int.ediv_nonneg l0 (Int.le_of_lt hT)
    have hq1 : lo / 2 ^ (64 - s) < 2 ^ s := by
      rw [Int.ediv_lt_iff_lt_mul hT, Int.mul_comm, hST]; exact l1
    rw [eY, eH, or_u64 (s := s) (by omega) hH0 (Int.dvd_mul_left _ _) (by omega) hq0 hq1 (by omega)]
    rw [u64_mask32 (x := y * 2 ^ s) (by omega) hY1]
    have hlo := Int.emod_nonneg (lo * 2 ^ s) (show (18446744073709551616 : Int) ≠ 0 by decide)
    have hlo1 := Int.emod_lt_of_pos (lo * 2 ^ s) (show (0 : Int) < 18446744073709551616 by decide)
    rw [u64_mask32 (x := lo * 2 ^ s % 18446744073709551616) hlo hlo1]
    have hV : (hi * 18446744073709551616 + lo) * 2 ^ s = (hi * 2 ^ s + lo / 2 ^ (64 - s)) * 18446744073709551616 + lo * 2 ^ s % 18446744073709551616 := by
      have a1 : lo * 2 ^ s / 18446744073709551616 = lo / 2 ^ (64 - s) := by
        rw [← hST]; exact Int.mul_ediv_mul_of_pos_left lo _ hS
      have a2 := Int.mul_ediv_add_emod (lo * 2 ^ s) 18446744073709551616
      rw [a1] at a2
      rw [Int.add_mul, Int.add_mul, Int.mul_right_comm]
      omega
    have hw : lo * 2 ^ s % 18446744073709551616 = lo * 2 ^ s % 18446744073709551616 / 4294967296 * 4294967296 + lo * 2 ^ s % 18446744073709551616 % 4294967296 := by omega
    obtain ⟨t1, t2⟩ := two_digits hS (show 0 < y by omega) hV hw
    have v10 : 0 ≤ lo * 2 ^ s % 18446744073709551616 / 4294967296 ∧ lo * 2 ^ s % 18446744073709551616 / 4294967296 < 4294967296 := by omega
    have v00 : 0 ≤ lo * 2 ^ s % 18446744073709551616 % 4294967296 ∧ lo * 2 ^ s % 18446744073709551616 % 4294967296 < 4294967296 := by omega
    have u0 : 0 ≤ hi * 2 ^ s + lo / 2 ^ (64 - s) ∧ hi * 2 ^ s + lo / 2 ^ (64 - s) < y * 2 ^ s := by omega
    generalize lo * 2 ^ s % 18446744073709551616 / 4294967296 = v1 at *
    generalize lo * 2 ^ s % 18446744073709551616 % 4294967296 = v0 at *
    generalize hi * 2 ^ s + lo / 2 ^ (64 - s) = u at *
    generalize hYY : y * 2 ^ s = Y at *
    have hy1a : 2147483648 ≤ Y / 4294967296 ∧ Y / 4294967296 < 4294967296 := by omega
    have hy0a : 0 ≤ Y % 4294967296 ∧ Y % 4294967296 < 4294967296 := by omega
    have hYs : Y = Y / 4294967296 * 4294967296 + Y % 4294967296 := by omega
    have hY : 0 < Y := by omega
    simp only [if_pos (show (0 : Int) ≤ (s : Int) by omega), if_pos (show (0 : Int) ≤ ((64 - s : Nat) : Int) by omega), if_neg (show ¬ Y / 4294967296 = 0 by omega)]
    rw [Int.tdiv_eq_ediv_of_nonneg u0.1]
    have g1 := guess_first hYs hy1a.1 hy1a.2 hy0a.1 hy0a.2 u0.1 u0.2 v10.1 v10.2
    have hdm : 0 ≤ u / (Y / 4294967296) * (Y / 4294967296) ∧ u / (Y / 4294967296) * (Y / 4294967296) ≤ u := by
      obtain ⟨ga, _, gc, _, ge, _⟩ := g1
      exact ⟨Int.mul_nonneg ge (by omega), by omega⟩
    have gb := g1
    obtain ⟨_, _, gc, gd, ge, gf⟩ := gb
    rw [wrapu_id (n := u / (Y / 4294967296)) (by omega) (by omega), wrapu_id (n := u / (Y / 4294967296) * (Y / 4294967296)) (by omega) (by omega), wrapu_id (n := u - u / (Y / 4294967296) * (Y / 4294967296)) (by omega) (by omega)]
    refine Div64_l0 hYs hy1a.1 hy1a.2 hy0a.1 hy0a.2 u0.2 v10.1 v10.2 ?_ _ _ _ (Nat.le_refl _) g1
    refine Ev.step (fun k => by rw [bits_Div64.j2]) ?_
    simp only [if_neg (show ¬ Y / 4294967296 = 0 by omega)]
    have hqr := quot_rem (n := u * 4294967296 + v1) hY
    have hr0 := Int.emod_nonneg (u * 4294967296 + v1) (Int.ne_of_gt hY)
    have hr1 := Int.emod_lt_of_pos (u * 4294967296 + v1) hY
    have hd0 : 0 ≤ (u * 4294967296 + v1) / Y := Int.ediv_nonneg (by omega) (by omega)
    have hd1 : (u * 4294967296 + v1) / Y < 4294967296 := by rw [Int.ediv_lt_iff_lt_mul hY]; omega
    have e21 : IntKind.u64.wrap (IntKind.u64.wrap (IntKind.u64.wrap (u * 4294967296) + v1) - IntKind.u64.wrap ((u * 4294967296 + v1) / Y * Y)) = (u * 4294967296 + v1) % Y := by
      simp only [wrapu]
      generalize (u * 4294967296 + v1) / Y * Y = P at *
      generalize (u * 4294967296 + v1) % Y = Q at *
      omega
    rw [e21]
    generalize (u * 4294967296 + v1) % Y = u2 at *
    generalize (u * 4294967296 + v1) / Y = q1 at *
    rw [Int.tdiv_eq_ediv_of_nonneg hr0]
    have g2 := guess_first hYs hy1a.1 hy1a.2 hy0a.1 hy0a.2 hr0 hr1 v00.1 v00.2
    have gb2 := g2
    obtain ⟨_, _, gc2, gd2, ge2, gf2⟩ := gb2
    have hdm2 : 0 ≤ u2 / (Y / 4294967296) * (Y / 4294967296) ∧ u2 / (Y / 4294967296) * (Y / 4294967296) ≤ u2 := ⟨Int.mul_nonneg ge2 (by omega), by omega⟩
    rw [wrapu_id (n := u2 / (Y / 4294967296)) (by omega) (by omega), wrapu_id (n := u2 / (Y / 4294967296) * (Y / 4294967296)) (by omega) (by omega), wrapu_id (n := u2 - u2 / (Y / 4294967296) * (Y / 4294967296)) (by omega) (by omega)]
    have hfin := Div64_l1 (s := s) (by omega) hYs hy1a.1 hy1a.2 hy0a.1 hy0a.2 hr0 hr1 v00.1 v00.2 hd0 hd1 _ _ _ (Nat.le_refl _) g2
    rw [t1, t2] at hfin
    exact hfin
theorem times_ev {a b m : Int} (h0 : 0 < m) (h1 : m ≤ 4611686018427387904) : Ev (fun k => impl_times.f k a b m) (a * b % m) := by
  unfold impl_times.f
  have a0 := Int.emod_nonneg a (Int.ne_of_gt h0)
  have a1 := Int.emod_lt_of_pos a h0
  have b0 := Int.emod_nonneg b (Int.ne_of_gt h0)
  have b1 := Int.emod_lt_of_pos b h0
  simp only [mod_ev h0 h1, Option.bind_some]
  rw [wrapu_id (n := a % m) a0 (by omega), wrapu_id (n := b % m) b0 (by omega), wrapu_id (n := m) (by omega) (by omega)]
  simp only [Mul64_eq a0 (show a % m < 18446744073709551616 by omega) b0 (show b % m < 18446744073709551616 by omega), Option.bind_some, if_neg (Int.ne_of_gt h0)]
  have p0 : 0 ≤ a % m * (b % m) := Int.mul_nonneg a0 b0
  have hd0 : 0 ≤ a % m * (b % m) / 18446744073709551616 := Int.ediv_nonneg p0 (by decide)
  rw [Int.tmod_eq_emod_of_nonneg hd0]
  have r0 := Int.emod_nonneg (a % m * (b % m) / 18446744073709551616) (Int.ne_of_gt h0)
  have r1 := Int.emod_lt_of_pos (a % m * (b % m) / 18446744073709551616) h0
  have s0 := Int.emod_nonneg (a % m * (b % m)) (show (18446744073709551616 : Int) ≠ 0 by decide)
  have s1 := Int.emod_lt_of_pos (a % m * (b % m)) (show (0 : Int) < 18446744073709551616 by decide)
  rw [bnd (Div64_ev r0 r1 (by omega) s0 s1)]
  have e : (a % m * (b % m) / 18446744073709551616 % m * 18446744073709551616 + a % m * (b % m) % 18446744073709551616) % m = a * b % m := by
    rw [Int.add_emod, mul_emod_left, ← Int.add_emod]
    have : a % m * (b % m) / 18446744073709551616 * 18446744073709551616 + a % m * (b % m) % 18446744073709551616 = a % m * (b % m) := by
      have := Int.mul_ediv_add_emod (a % m * (b % m)) 18446744073709551616
      omega
    rw [this, ← Int.mul_emod]
  have t0 := Int.emod_nonneg (a * b) (Int.ne_of_gt h0)
  have t1 := Int.emod_lt_of_pos (a * b) h0
  refine ev_some ?_
  simp only
  rw [e, wrap_id (by omega) (by omega)]
theorem eqLats_l (l : List S27) (hl : l.length ≤ 1000000) : ∀ d i : Nat, i + d = l.length → Ev (fun k => laws_eqLatticeS.l0 k l l i) true := by
  intro d
  induction d with
  | zero =>
    intro i hi
    refine Ev.step (fun k => by rw [laws_eqLatticeS.l0]) ?_
    simp only [if_neg (show ¬ (i : Int) < (l.length : Int) by omega)]
    exact Ev.now _
  | succ d ih =>
    intro i hi
    refine Ev.step (fun k => by rw [laws_eqLatticeS.l0]) ?_
    have e : wrap64 ((i : Int) + 1) = ((i + 1 : Nat) : Int) := by rw [wrap_id (by omega) (by omega)]; omega
    simp only [if_pos (show (i : Int) < (l.length : Int) by omega), if_pos (show (0 : Int) ≤ i by omega), laws_eqLattice.f, if_true, Option.bind_some, e]
    exact ih (i + 1) (by omega)
theorem eqLats_ev (l : List S27) (hl : l.length ≤ 1000000) : Ev (fun k => laws_eqLatticeS.f k l l) true := by
  unfold laws_eqLatticeS.f
  simp only [if_true]
  exact eqLats_l l hl l.length 0 (by omega)
def upsL (a : Int) : Nat → List S27
  | 0 => []
  | n + 1 => ⟨a, a + 1, a + 2⟩ :: upsL (a + 3) n
theorem upsL_length (a : Int) (n : Nat) : (upsL a n).length = n := by
  induction n generalizing a with
  | zero => rfl
  | succ n ih => rw [show upsL a (n + 1) = ⟨a, a + 1, a + 2⟩ :: upsL (a + 3) n from rfl, List.length_cons, ih]
theorem set_atL (pre : List S27) (b c : S27) (ys : List S27) : (pre ++ b :: ys).set (pre.length : Int).toNat c = pre ++ c :: ys := by
  simp
theorem markLats_l : ∀ (ys pre : List S27) (a : Int), (pre ++ ys).length ≤ 1000000 → 0 ≤ a → a + 3 * ys.length ≤ 1000000000 → Ev (fun k => laws_markLatticeS.l0 k (pre ++ ys) a pre.length) (a + 3 * ys.length, pre ++ upsL a ys.length) := by
  intro ys
  induction ys with
  | nil =>
    intro pre a hl h0 h1
    refine Ev.step (fun k => by rw [laws_markLatticeS.l0]) ?_
    simp only [List.append_nil, if_neg (Int.lt_irrefl _)]
    exact ev_some (by simp [upsL])
  | cons b ys ih =>
    intro pre a hl h0 h1
    refine Ev.step (fun k => by rw [laws_markLatticeS.l0]) ?_
    have hl' : (pre ++ b :: ys).length = pre.length + (ys.length + 1) := by simp
    have hlt : (pre.length : Int) < ((pre ++ b :: ys).length : Int) := by omega
    rw [List.length_cons] at h1
    have e1 : wrap64 (a + 1) = a + 1 := wrap_id (by omega) (by omega)
    have e3 : wrap64 (a + 1 + 1) = a + 2 := by rw [wrap_id (by omega) (by omega)]; omega
    have e4 : wrap64 (a + 2 + 1) = a + 3 := by rw [wrap_id (by omega) (by omega)]; omega
    have e2 : wrap64 ((pre.length : Int) + 1) = ((pre ++ [(⟨a, a + 1, a + 2⟩ : S27)]).length : Int) := by rw [wrap_id (by omega) (by omega)]; simp
    simp only [if_pos hlt, if_pos (show (0 : Int) ≤ (pre.length : Int) by omega), set_atL, rd_lat_at, Option.bind_some, e1, e3, e4, e2]
    have := ih (pre ++ [(⟨a, a + 1, a + 2⟩ : S27)]) (a + 3) (by simpa using hl) (by omega) (by omega)
    simp only [List.append_assoc, List.singleton_append] at this
    refine ev_eq this ?_
    rw [List.length_cons, show upsL a (ys.length + 1) = ⟨a, a + 1, a + 2⟩ :: upsL (a + 3) ys.length from rfl]
    refine Prod.ext ?_ rfl
    show a + 3 + 3 * (ys.length : Int) = a + 3 * ((ys.length + 1 : Nat) : Int)
    omega
theorem markLats_ev {ys : List S27} {a : Int} (hl : ys.length ≤ 1000000) (h0 : 0 ≤ a) (h1 : a ≤ 1000000) : Ev (fun k => laws_markLatticeS.f k ys a) (a + 3 * ys.length, upsL a ys.length) := by
  unfold laws_markLatticeS.f
  exact markLats_l ys [] a (by simpa using hl) h0 (by omega)
theorem heldLats_l : ∀ (n : Nat) (pre : List S27) (a : Int), pre.length + n ≤ 1000000 → 0 ≤ a → a + 3 * n ≤ 1000000000 → Ev (fun k => laws_heldLatticeS.l0 k (pre ++ upsL a n) a pre.length) (a + 3 * n) := by
  intro n
  induction n with
  | zero =>
    intro pre a hl h0 h1
    refine Ev.step (fun k => by rw [laws_heldLatticeS.l0]) ?_
    simp only [upsL, List.append_nil, if_neg (Int.lt_irrefl _)]
    exact ev_some (by simp)
  | succ n ih =>
    intro pre a hl h0 h1
    refine Ev.step (fun k => by rw [laws_heldLatticeS.l0]) ?_
    have hl' : (pre ++ upsL a (n + 1)).length = pre.length + (n + 1) := by rw [List.length_append, upsL_length]
    have hlt : (pre.length : Int) < ((pre ++ upsL a (n + 1)).length : Int) := by omega
    have e1 : wrap64 (a + 1) = a + 1 := wrap_id (by omega) (by omega)
    have e3 : wrap64 (a + 1 + 1) = a + 2 := by rw [wrap_id (by omega) (by omega)]; omega
    have e4 : wrap64 (a + 2 + 1) = a + 3 := by rw [wrap_id (by omega) (by omega)]; omega
    have e2 : wrap64 ((pre.length : Int) + 1) = ((pre ++ [(⟨a, a + 1, a + 2⟩ : S27)]).length : Int) := by rw [wrap_id (by omega) (by omega)]; simp
    have hrd : rd_T27 (pre ++ upsL a (n + 1)) (pre.length : Int) = ⟨a, a + 1, a + 2⟩ := rd_lat_at pre _ _
    simp only [if_pos hlt, if_pos (show (0 : Int) ≤ (pre.length : Int) by omega), hrd, if_true, e1, e3, e4, e2]
    have := ih (pre ++ [(⟨a, a + 1, a + 2⟩ : S27)]) (a + 3) (by simp; omega) (by omega) (by omega)
    simp only [List.append_assoc, List.singleton_append] at this
    refine ev_eq this ?_
    omega
theorem heldLats_ev {n : Nat} {a : Int} (hl : n ≤ 1000000) (h0 : 0 ≤ a) (h1 : a ≤ 1000000) : Ev (fun k => laws_heldLatticeS.f k (upsL a n) a) (a + 3 * n) := by
  unfold laws_heldLatticeS.f
  exact heldLats_l n [] a (by simpa using hl) h0 (by omega)
def insL (x : Int) : List Int → List Int
  | [] => [x]
  | y :: ys => if y < x then y :: insL x ys else x :: y :: ys
theorem insL_length (x : Int) (ys : List Int) : (insL x ys).length = ys.length + 1 := by
  induction ys with
  | nil => rfl
  | cons y ys ih => unfold insL; split <;> simp [ih]
theorem insL_perm (x : Int) (ys : List Int) : (insL x ys).Perm (x :: ys) := by
  induction ys with
  | nil => exact List.Perm.refl _
  | cons y ys ih =>
    unfold insL; split
    · exact (ih.cons y).trans (List.Perm.swap x y ys)
    · exact List.Perm.refl _
theorem insL_sorted (x : Int) (ys : List Int) (h : ys.Pairwise (· ≤ ·)) : (insL x ys).Pairwise (· ≤ ·) := by
  induction ys with
  | nil => exact List.pairwise_singleton _ _
  | cons y ys ih =>
    rw [List.pairwise_cons] at h
    unfold insL; split
    · rw [List.pairwise_cons]
      refine ⟨fun a ha => ?_, ih h.2⟩
      rcases List.mem_cons.1 ((insL_perm x ys).mem_iff.1 ha) with rfl | ha
      · omega
      · exact h.1 a ha
    · rw [List.pairwise_cons, List.pairwise_cons]
      refine ⟨fun a ha => ?_, h⟩
      rcases List.mem_cons.1 ha with rfl | ha
      · omega
      · have := h.1 a ha; omega
def isortL (acc : List Int) : List Int → List Int
  | [] => acc
  | x :: xs => isortL (insL x acc) xs
theorem isortL_perm (xs : List Int) : ∀ acc, (isortL acc xs).Perm (acc ++ xs) := by
  induction xs with
  | nil => intro acc; rw [List.append_nil]; exact List.Perm.refl _
  | cons x xs ih =>
    intro acc
    refine (ih (insL x acc)).trans ?_
    refine ((insL_perm x acc).append_right xs).trans ?_
    exact List.perm_middle.symm
theorem isortL_sorted (xs : List Int) : ∀ acc, acc.Pairwise (· ≤ ·) → (isortL acc xs).Pairwise (· ≤ ·) := by
  induction xs with
  | nil => intro acc h; exact h
  | cons x xs ih => intro acc h; exact ih _ (insL_sorted x acc h)
theorem lt_big {n : Nat} (h : n ≤ 1000000) : n < 17592186044416 := Nat.lt_of_le_of_lt h (by decide)
theorem lt_big3 {n : Nat} (h : n ≤ 1000000) : n < 5864062014805 := Nat.lt_of_le_of_lt h (by decide)
theorem l01Own_small {l : List Int} (h : l.length ≤ 1000000) : spec_l01Own.f l = some l := by
  unfold spec_l01Own.f
  rw [Option.bind_some, if_pos (lt_big (by rw [List.length_nil]; omega)), List.nil_append]
theorem sorted_l1 {x : Int} {p0 q0 : List Int} {R : List Int} (hl : (p0 ++ x :: q0).length ≤ 100000) :
    ∀ (ys pre : List Int), (pre ++ ys).length ≤ 100000 → Ev (fun k => spec_l03Sorted.l0 k (p0 ++ x :: q0) (pre ++ insL x ys) ((p0 ++ [x]).length : Int)) R →
    Ev (fun k => spec_l03Sorted.l1 k (p0 ++ x :: q0) (pre ++ ys) p0.length pre.length) R := by
  have e1 : wrap64 ((p0.length : Int) + 1) = ((p0 ++ [x]).length : Int) := by
    have : p0.length ≤ 100000 := by rw [List.length_append] at hl; omega
    rw [wrap_id (by omega) (by omega)]; simp
  have hlt : (p0.length : Int) < ((p0 ++ x :: q0).length : Int) := by rw [List.length_append, List.length_cons]; omega
  intro ys
  induction ys with
  | nil =>
    intro pre hp h
    refine Ev.step (fun k => by rw [spec_l03Sorted.l1]) ?_
    rw [List.append_nil] at hp ⊢
    have ht : pre.take (pre.length : Int).toNat = pre := by simp
    have hd : pre.drop (pre.length : Int).toNat = [] := by simp
    simp only [if_neg (Int.lt_irrefl _), if_pos (show (0 : Int) ≤ (p0.length : Int) by omega), if_pos hlt, rd_at, Option.bind_some, if_pos (show (0 : Int) ≤ (pre.length : Int) by omega), if_pos (Int.le_refl _), ht, hd, List.append_nil,
      if_pos (show [x].length + ([] : List Int).length < 17592186044416 from lt_big (by rw [List.length_singleton, List.length_nil]; omega)), l01Own_small (show pre.length ≤ 1000000 by omega), if_pos (show pre.length + [x].length < 17592186044416 from lt_big (by rw [List.length_singleton]; omega)), e1]
    exact h
  | cons y ys ih =>
    intro pre hp h
    refine Ev.step (fun k => by rw [spec_l03Sorted.l1]) ?_
    have hlt2 : (pre.length : Int) < ((pre ++ y :: ys).length : Int) := by rw [List.length_append, List.length_cons]; omega
    have hp' : pre.length + (ys.length + 1) ≤ 100000 := by rw [List.length_append, List.length_cons] at hp; omega
    have e2 : wrap64 ((pre.length : Int) + 1) = ((pre ++ [y]).length : Int) := by rw [wrap_id (by omega) (by omega)]; simp
    simp only [if_pos hlt2, if_pos (show (0 : Int) ≤ (p0.length : Int) by omega), if_pos (show (0 : Int) ≤ (pre.length : Int) by omega), if_pos hlt, rd_at]
    by_cases hy : y < x
    · simp only [if_pos hy, e2]
      have es : pre ++ y :: ys = (pre ++ [y]) ++ ys := by simp
      rw [es] at hp ⊢
      refine ih (pre ++ [y]) hp ?_
      rw [insL, if_pos hy] at h
      simpa using h
    · rw [insL, if_neg hy] at h
      have ht : (pre ++ y :: ys).take (pre.length : Int).toNat = pre := by simp
      have hd : (pre ++ y :: ys).drop (pre.length : Int).toNat = y :: ys := by simp
      simp only [if_neg hy, Option.bind_some, if_pos (Int.le_of_lt hlt2), ht, hd, if_pos (show [x].length + (y :: ys).length < 17592186044416 from lt_big (by rw [List.length_singleton, List.length_cons]; omega)), l01Own_small (show pre.length ≤ 1000000 by omega),
        if_pos (show pre.length + ([x] ++ y :: ys).length < 17592186044416 from lt_big (by rw [List.length_append, List.length_singleton, List.length_cons]; omega)), e1]
      exact h
theorem sorted_l0 : ∀ (ys pre acc : List Int), (pre ++ ys).length ≤ 10000 → acc.length ≤ pre.length → Ev (fun k => spec_l03Sorted.l0 k (pre ++ ys) acc pre.length) (isortL acc ys) := by
  intro ys
  induction ys with
  | nil =>
    intro pre acc hl ha
    refine Ev.step (fun k => by rw [spec_l03Sorted.l0]) ?_
    simp only [List.append_nil, if_neg (Int.lt_irrefl _)]
    exact Ev.now _
  | cons y ys ih =>
    intro pre acc hl ha
    have hlt : (pre.length : Int) < ((pre ++ y :: ys).length : Int) := by rw [List.length_append, List.length_cons]; omega
    refine Ev.step (fun k => by rw [spec_l03Sorted.l0]) ?_
    simp only [if_pos hlt]
    have hl2 : pre.length + (ys.length + 1) ≤ 10000 := by rw [List.length_append, List.length_cons] at hl; omega
    refine sorted_l1 (p0 := pre) (q0 := ys) (by omega) acc [] (by rw [List.nil_append]; omega) ?_
    rw [List.nil_append]
    have es : pre ++ y :: ys = (pre ++ [y]) ++ ys := by simp
    rw [es] at hl ⊢
    exact ih (pre ++ [y]) (insL y acc) hl (by rw [insL_length, List.length_append, List.length_singleton]; omega)
theorem sorted_ev {xs : List Int} (h : xs.length ≤ 10000) : Ev (fun k => spec_l03Sorted.f k xs) (isortL [] xs) := by
  unfold spec_l03Sorted.f
  exact sorted_l0 xs [] [] (by simpa using h) (Nat.le_refl _)
def mixAt (p u m : Int) (n k i : Nat) : Int := (m * p ^ (n - k) % p ^ (u.toNat + k) + i * p ^ u.toNat) % p ^ (u.toNat + k)
def mixes (p u m : Int) (n k c : Nat) : List Int := (List.range c).map (mixAt p u m n k)
theorem mixes_succ (p u m : Int) (n k c : Nat) : mixes p u m n k (c + 1) = mixes p u m n k c ++ [mixAt p u m n k c] := by
  unfold mixes; rw [List.range_succ, List.map_append]; rfl
theorem mixes_length (p u m : Int) (n k c : Nat) : (mixes p u m n k c).length = c := by unfold mixes; simp
def latAt (u d : Int) (n k : Nat) (x : Int) : S27 := ⟨u + k, x, d + n - k⟩
def rowsI (p u m d : Int) (n c : Nat) : List S27 := (List.range c).flatMap fun k => (mixes p u m n k (p ^ k).toNat).map (latAt u d n k)
def rowsS (p u m d : Int) (n c : Nat) : List S27 := (List.range c).flatMap fun k => (isortL [] (mixes p u m n k (p ^ k).toNat)).map (latAt u d n k)
theorem rowsI_succ (p u m d : Int) (n c : Nat) : rowsI p u m d n (c + 1) = rowsI p u m d n c ++ (mixes p u m n c (p ^ c).toNat).map (latAt u d n c) := by
  unfold rowsI; rw [List.range_succ, List.flatMap_append]; simp
theorem rowsS_succ (p u m d : Int) (n c : Nat) : rowsS p u m d n (c + 1) = rowsS p u m d n c ++ (isortL [] (mixes p u m n c (p ^ c).toNat)).map (latAt u d n c) := by
  unfold rowsS; rw [List.range_succ, List.flatMap_append]; simp
theorem rows_perm (p u m d : Int) (n c : Nat) : (rowsS p u m d n c).Perm (rowsI p u m d n c) := by
  induction c with
  | zero => exact List.Perm.refl _
  | succ c ih =>
    rw [rowsS_succ, rowsI_succ]
    exact ih.append (List.Perm.map _ (by simpa using isortL_perm (mixes p u m n c (p ^ c).toNat) []))
theorem rowsI_mem {p u m d : Int} {n c : Nat} {x : S27} (h : x ∈ rowsI p u m d n c) : x.f2 = d + n - (x.f0 - u) := by
  unfold rowsI at h
  obtain ⟨k, _, h⟩ := List.mem_flatMap.1 h
  obtain ⟨y, _, rfl⟩ := List.mem_map.1 h
  unfold latAt
  dsimp only
  omega
theorem rowsS_sorted (p u m d : Int) (n c : Nat) : (rowsS p u m d n c).Pairwise (fun a b => Go.Proofs.ltOf cfL b a = false) := by
  unfold rowsS
  rw [List.pairwise_flatMap]
  refine ⟨fun k _ => ?_, ?_⟩
  · rw [List.pairwise_map]
    refine (isortL_sorted _ [] List.Pairwise.nil).imp ?_
    intro a b hab
    rw [nlt_cfL]
    unfold latAt
    dsimp only
    omega
  · refine List.pairwise_lt_range.imp ?_
    intro a b hab x hx y hy
    obtain ⟨_, _, rfl⟩ := List.mem_map.1 hx
    obtain ⟨_, _, rfl⟩ := List.mem_map.1 hy
    rw [nlt_cfL]
    unfold latAt
    dsimp only
    omega
theorem srt_rows (p u m d : Int) (n c : Nat) : srt (rowsI p u m d n c) = rowsS p u m d n c := by
  obtain ⟨h1, h2⟩ := srt_facts (rowsI p u m d n c)
  refine List.Perm.eq_of_pairwise (le := fun a b => Go.Proofs.ltOf cfL b a = false) ?_ h2 (rowsS_sorted p u m d n c) (h1.trans (rows_perm p u m d n c).symm)
  intro a b ha hb hab hba
  have ma := rowsI_mem (h1.mem_iff.1 ha)
  have mb := rowsI_mem ((rows_perm p u m d n c).mem_iff.1 hb)
  rw [nlt_cfL] at hab hba
  obtain ⟨a0, a1, a2⟩ := a
  obtain ⟨b0, b1, b2⟩ := b
  dsimp only at *
  obtain rfl : a0 = b0 := by omega
  obtain rfl : a1 = b1 := by omega
  obtain rfl : a2 = b2 := by omega
  rfl
def cntL (p : Int) : Nat → Int
  | 0 => 1
  | n + 1 => cntL p n + p ^ (n + 1)
theorem rowsI_length (p u m d : Int) (n : Nat) {q : Int} (hp : 0 ≤ p) : ∀ c : Nat, ((rowsI p u m d n (c + 1)).length : Int) = cntL p c := by
  intro c
  induction c with
  | zero => rw [rowsI_succ]; simp [rowsI, mixes_length, cntL]
  | succ c ih =>
    rw [rowsI_succ, List.length_append, List.length_map, mixes_length]
    have : 0 ≤ p ^ (c + 1) := Int.pow_nonneg hp
    rw [show cntL p (c + 1) = cntL p c + p ^ (c + 1) from rfl, ← ih]
    omega
theorem cnt_eq {p : Int} (h : IsP p) {n : Nat} (hn : n ≤ 4) : Int.tdiv (p ^ (n + 1) - 1) (p - 1) = cntL p n ∧ 0 ≤ cntL p n ∧ cntL p n ≤ 2801 := by
  unfold IsP at h
  rcases h with rfl | rfl | rfl | rfl <;> rcases (by omega : n = 0 ∨ n = 1 ∨ n = 2 ∨ n = 3 ∨ n = 4) with rfl | rfl | rfl | rfl | rfl <;> decide
theorem rowsI_len {p u m d : Int} {n c : Nat} (h : IsP p) (hc : c ≤ 5) : (rowsI p u m d n c).length ≤ 2801 := by
  cases c with
  | zero => exact Nat.zero_le _
  | succ c =>
    have e := rowsI_length p u m d n (q := 0) (Int.le_of_lt h.pos) c
    have := (cnt_eq h (show c ≤ 4 by omega)).2.2
    omega
theorem rowsS_len {p u m d : Int} {n c : Nat} (h : IsP p) (hc : c ≤ 5) : (rowsS p u m d n c).length ≤ 2801 := by
  rw [(rows_perm p u m d n c).length_eq]; exact rowsI_len h hc
def InsR (p u m d n : Int) : List S27 × Int := if IsP p ∧ Lat p u m d then
  (if 0 ≤ n ∧ n ≤ 4 then (if cntL p n.toNat > 100 then ([], 3) else if u + n > 12 then ([], 3) else if d + n > 12 then ([], 3) else (rowsS p u m d n.toNat (n.toNat + 1), 0)) else ([], 2)) else ([], 1)
theorem InsR_length (p u m d n : Int) : (InsR p u m d n).1.length ≤ 1000000 := by
  unfold InsR
  split
  · rename_i h
    split
    · split
      · simp
      · split
        · simp
        · split
          · simp
          · have := rowsS_len (u := u) (m := m) (d := d) (n := n.toNat) (c := n.toNat + 1) h.1 (by omega)
            dsimp only; omega
    · simp
  · simp
theorem inside_num {p u m d : Int} {n c i : Nat} (h : IsP p) (hl : Lat p u m d) (hn : n ≤ 4) (hc : c ≤ n) (hu : u + n ≤ 12) (hi : (i : Int) < p ^ c) :
    0 < p ^ (u.toNat + c) ∧ p ^ (u.toNat + c) ≤ 13841287201 ∧ 0 ≤ p ^ u.toNat * i ∧ p ^ u.toNat * i ≤ 13841287201 * 2401 ∧ 0 ≤ m * p ^ (n - c) % p ^ (u.toNat + c) ∧ m * p ^ (n - c) % p ^ (u.toNat + c) < p ^ (u.toNat + c) ∧ (i : Int) < 2401 := by
  obtain ⟨u0, u1, d0, d1, m0, m1⟩ := hl
  have a1 := pow_pos' h (u.toNat + c)
  have a2 := pow_le_seven h (m := u.toNat + c) (n := 12) (by omega)
  have a3 := pow_le_seven h (m := c) (n := 4) (by omega)
  have a4 := pow_le_seven h (m := u.toNat) (n := 12) (by omega)
  have a5 := pow_pos' h u.toNat
  have s1 : (7 : Int) ^ 12 = 13841287201 := by decide
  have s2 : (7 : Int) ^ 4 = 2401 := by decide
  rw [s1] at a2 a4
  rw [s2] at a3
  refine ⟨a1, a2, Int.mul_nonneg (Int.le_of_lt a5) (by omega), Int.mul_le_mul a4 (by omega) (by omega) (by omega), Int.emod_nonneg _ (Int.ne_of_gt a1), Int.emod_lt_of_pos _ a1, by omega⟩
theorem inside_l1 {p u m d : Int} {n c : Nat} {R : List S27 × Int} (h : IsP p) (hl : Lat p u m d) (hn : n ≤ 4) (hc : c ≤ n) (hu : u + n ≤ 12)
    (hR : Ev (fun k => impl_LatticesInside.l0 k p n (rowsI p u m d n (c + 1)) ((n : Int) + 1) ((c + 1 : Nat) : Int) u m d) R) :
    ∀ q i : Nat, i + q = (p ^ c).toNat → Ev (fun k => impl_LatticesInside.l1 k p n (rowsI p u m d n c ++ (mixes p u m n c i).map (latAt u d n c)) c (p ^ (u.toNat + c)) ((n : Int) + 1) c (p ^ c) i u m d) R := by
  have hpc := pow_pos' h c
  have hl' := hl
  obtain ⟨u0, u1, d0, d1, m0, m1⟩ := hl'
  intro q
  induction q with
  | zero =>
    intro i hi
    refine Ev.step (fun k => by rw [impl_LatticesInside.l1]) ?_
    have e1 : wrap64 ((c : Int) + 1) = ((c + 1 : Nat) : Int) := by rw [wrap_id (by omega) (by omega)]; omega
    simp only [if_neg (show ¬ (i : Int) < p ^ c by omega), e1]
    rw [show i = (p ^ c).toNat by omega, ← rowsI_succ]
    exact hR
  | succ q ih =>
    intro i hi
    have hlt : (i : Int) < p ^ c := by omega
    obtain ⟨a1, a2, a3, a4, a5, a6, a7⟩ := inside_num (d := d) h hl hn hc hu hlt
    refine Ev.step (fun k => by rw [impl_LatticesInside.l1]) ?_
    simp only [if_pos hlt]
    have ew : wrap64 ((n : Int) - c) = ((n - c : Nat) : Int) := by rw [wrap_id (by omega) (by omega)]; omega
    simp only [ew]
    rw [bnd (power_ev h (show u ≤ 22 by omega)), bnd (power_ev h (show ((n - c : Nat) : Int) ≤ 22 by omega))]
    rw [Int.toNat_natCast]
    rw [bnd (times_ev a1 (by omega))]
    have e2 : wrap64 (wrap64 (p ^ u.toNat * i) + m * p ^ (n - c) % p ^ (u.toNat + c)) = p ^ u.toNat * i + m * p ^ (n - c) % p ^ (u.toNat + c) := by
      rw [wrap_id (x := p ^ u.toNat * i) (by omega) (by omega), wrap_id (by omega) (by omega)]
    have e3 : (p ^ u.toNat * i + m * p ^ (n - c) % p ^ (u.toNat + c)) % p ^ (u.toNat + c) = mixAt p u m n c i := by
      unfold mixAt; rw [Int.add_comm, Int.mul_comm (p ^ u.toNat)]
    have e4 : wrap64 (u + c) = u + c := wrap_id (by omega) (by omega)
    have e5 : wrap64 (wrap64 (d + n) - c) = d + n - c := by rw [wrap_id (x := d + n) (by omega) (by omega), wrap_id (by omega) (by omega)]
    have e6 : wrap64 ((i : Int) + 1) = ((i + 1 : Nat) : Int) := by rw [wrap_id (by omega) (by omega)]; omega
    have hlen : (rowsI p u m d n c ++ (mixes p u m n c i).map (latAt u d n c)).length < 5864062014805 := by
      have := rowsI_len (u := u) (m := m) (d := d) (n := n) (c := c) h (by omega)
      refine lt_big3 ?_
      rw [List.length_append, List.length_map, mixes_length]
      exact Nat.le_trans (Nat.add_le_add this (Nat.le_of_lt (Int.ofNat_lt.1 a7))) (by decide)
    simp only [e2, mod_ev a1 (show p ^ (u.toNat + c) ≤ 4611686018427387904 by omega), Option.bind_some, e3, if_pos hlen, e4, e5, e6]
    have e7 : rowsI p u m d n c ++ (mixes p u m n c i).map (latAt u d n c) ++ [(⟨u + c, mixAt p u m n c i, d + n - c⟩ : S27)] = rowsI p u m d n c ++ (mixes p u m n c (i + 1)).map (latAt u d n c) := by
      rw [mixes_succ, List.map_append, List.append_assoc]; rfl
    rw [e7]
    exact ih (i + 1) (by omega)
theorem inside_l0 {p u m d : Int} {n : Nat} (h : IsP p) (hl : Lat p u m d) (hn : n ≤ 4) (hu : u + n ≤ 12) :
    ∀ q c : Nat, c + q = n + 1 → Ev (fun k => impl_LatticesInside.l0 k p n (rowsI p u m d n c) ((n : Int) + 1) c u m d) (srt (rowsI p u m d n (n + 1)), 0) := by
  intro q
  induction q with
  | zero =>
    intro c hc
    obtain rfl : c = n + 1 := by omega
    refine Ev.step (fun k => by rw [impl_LatticesInside.l0]) ?_
    have hlen := rowsI_len (u := u) (m := m) (d := d) (n := n) (c := n + 1) h (by omega)
    simp only [if_neg (show ¬ (((n + 1 : Nat) : Int) < (n : Int) + 1) by omega), impl_Lattice_40.f, if_pos (show (rowsI p u m d n (n + 1)).length ≤ 1000000 by omega), Option.bind_some]
    exact Ev.now _
  | succ q ih =>
    intro c hc
    have hl' := hl
    obtain ⟨u0, u1, d0, d1, m0, m1⟩ := hl'
    refine Ev.step (fun k => by rw [impl_LatticesInside.l0]) ?_
    have e4 : wrap64 (u + c) = u + c := wrap_id (by omega) (by omega)
    simp only [if_pos (show (c : Int) < (n : Int) + 1 by omega), e4]
    rw [bnd (power_ev h (show u + c ≤ 22 by omega)), bnd (power_ev h (show (c : Int) ≤ 22 by omega)), Int.toNat_natCast, show (u + c).toNat = u.toNat + c by omega]
    have := inside_l1 h hl hn (show c ≤ n by omega) hu (ih (c + 1) (by omega)) (p ^ c).toNat 0 (by omega)
    rw [show mixes p u m n c 0 = [] from rfl, List.map_nil, List.append_nil] at this
    exact this
theorem implInside_ev {p u m d n : Int} : Ev (fun k => impl_LatticesInside.f k p u m d n) (InsR p u m d n) := by
  unfold impl_LatticesInside.f
  rw [bnd IsLattice_ev]
  unfold InsR
  by_cases h : IsP p ∧ Lat p u m d
  · simp only [h, and_self, decide_true, if_true]
    obtain ⟨hp, hl⟩ := h
    by_cases h0 : n < 0
    · simp only [if_pos h0, if_neg (show ¬ (0 ≤ n ∧ n ≤ 4) by omega)]
      refine Ev.step (fun k => by rw [impl_LatticesInside.j0]) ?_
      simp only [if_true]
      exact Ev.now _
    · simp only [if_neg h0]
      refine Ev.step (fun k => by rw [impl_LatticesInside.j0]) ?_
      by_cases h4 : n > 4
      · simp only [decide_eq_true h4, if_true, if_neg (show ¬ (0 ≤ n ∧ n ≤ 4) by omega)]
        exact Ev.now _
      · simp only [decide_eq_false h4, if_neg Bool.false_ne_true, if_pos (show 0 ≤ n ∧ n ≤ 4 by omega)]
        obtain ⟨n, rfl⟩ : ∃ k : Nat, n = k := ⟨n.toNat, by omega⟩
        have hn : n ≤ 4 := by omega
        have e1 : wrap64 ((n : Int) + 1) = (n : Int) + 1 := wrap_id (by omega) (by omega)
        obtain ⟨c1, c2, c3⟩ := cnt_eq hp hn
        have p2 := hp.two_le
        have p7 := hp.le_seven
        have q1 := pow_pos' hp (n + 1)
        have q2 := pow_le_seven hp (m := n + 1) (n := 5) (by omega)
        have q3 : (7 : Int) ^ 5 = 16807 := by decide
        rw [q3] at q2
        have e2 : wrap64 (p - 1) = p - 1 := wrap_id (by omega) (by omega)
        have e3 : wrap64 (p ^ (n + 1) - 1) = p ^ (n + 1) - 1 := wrap_id (by omega) (by omega)
        rw [e1, bnd (power_ev hp (show (n : Int) + 1 ≤ 22 by omega)), show ((n : Int) + 1).toNat = n + 1 by omega]
        have hl' := hl
        obtain ⟨u0, u1, d0, d1, m0, m1⟩ := hl'
        have e4 : wrap64 (u + n) = u + n := wrap_id (by omega) (by omega)
        have e5 : wrap64 (d + n) = d + n := wrap_id (by omega) (by omega)
        simp only [e2, e3, c1, if_neg (show ¬ p - 1 = 0 by omega), wrap_id (x := cntL p n) (by omega) (by omega), e4, e5, Int.toNat_natCast]
        by_cases g1 : cntL p n > 100
        · simp only [if_pos g1]; exact Ev.now _
        · simp only [if_neg g1]
          by_cases g2 : u + n > 12
          · simp only [if_pos g2]; exact Ev.now _
          · simp only [if_neg g2]
            by_cases g3 : d + n > 12
            · simp only [if_pos g3]; exact Ev.now _
            · simp only [if_neg g3]
              have := inside_l0 hp hl hn (by omega) (n + 1) 0 (by omega)
              rw [srt_rows] at this
              exact this
  · simp only [decide_eq_false h, if_neg Bool.false_ne_true, if_neg h]
    exact Ev.now _
theorem insideS_l3 {p u m d : Int} {n c : Nat} {R : List S27 × Int} (hd : 0 ≤ d ∧ d ≤ 12) (hu : 0 ≤ u ∧ u ≤ 12) (hn : n ≤ 4) (hc : c ≤ n) {base : List S27} (hb : base.length ≤ 3000) :
    ∀ (ys pre : List Int), (pre ++ ys).length ≤ 3000 → Ev (fun k => spec_LatticesInside.l1 k p n (base ++ (pre ++ ys).map (latAt u d n c)) ((c + 1 : Nat) : Int) u m d) R →
    Ev (fun k => spec_LatticesInside.l3 k p n (base ++ pre.map (latAt u d n c)) c (u + c) (pre ++ ys) pre.length u m d) R := by
  intro ys
  induction ys with
  | nil =>
    intro pre hl hR
    refine Ev.step (fun k => by rw [spec_LatticesInside.l3]) ?_
    have e1 : wrap64 ((c : Int) + 1) = ((c + 1 : Nat) : Int) := by rw [wrap_id (by omega) (by omega)]; omega
    rw [List.append_nil] at hR ⊢
    simp only [if_neg (Int.lt_irrefl _), e1]
    exact hR
  | cons y ys ih =>
    intro pre hl hR
    refine Ev.step (fun k => by rw [spec_LatticesInside.l3]) ?_
    have hlt : (pre.length : Int) < ((pre ++ y :: ys).length : Int) := by rw [List.length_append, List.length_cons]; omega
    have hl2 : pre.length + (ys.length + 1) ≤ 3000 := by rw [List.length_append, List.length_cons] at hl; omega
    have e2 : wrap64 ((pre.length : Int) + 1) = ((pre ++ [y]).length : Int) := by rw [wrap_id (by omega) (by omega)]; simp
    have e5 : wrap64 (wrap64 (d + n) - c) = d + n - c := by rw [wrap_id (x := d + n) (by omega) (by omega), wrap_id (by omega) (by omega)]
    have hlen : (base ++ pre.map (latAt u d n c)).length < 5864062014805 := lt_big3 (by rw [List.length_append, List.length_map]; omega)
    simp only [if_pos hlt, if_pos (show (0 : Int) ≤ (pre.length : Int) by omega), rd_at, if_pos hlen, e2, e5]
    have es : pre ++ y :: ys = (pre ++ [y]) ++ ys := by simp
    have e7 : base ++ pre.map (latAt u d n c) ++ [(⟨u + c, y, d + n - c⟩ : S27)] = base ++ (pre ++ [y]).map (latAt u d n c) := by
      rw [List.map_append, List.append_assoc]; rfl
    rw [e7]
    rw [es] at hl hR ⊢
    exact ih (pre ++ [y]) hl hR
theorem insideS_l2 {p u m d : Int} {n c : Nat} {R : List S27 × Int} (h : IsP p) (hl : Lat p u m d) (hn : n ≤ 4) (hc : c ≤ n) (hu : u + n ≤ 12)
    (hR : Ev (fun k => spec_LatticesInside.l1 k p n (rowsS p u m d n (c + 1)) ((c + 1 : Nat) : Int) u m d) R) :
    ∀ q i : Nat, i + q = (p ^ c).toNat → Ev (fun k => spec_LatticesInside.l2 k p n (rowsS p u m d n c) c (u + c) (p ^ (u.toNat + c)) (mixes p u m n c i) i u m d) R := by
  have hpc := pow_pos' h c
  have hpc2 := pow_le_seven h (m := c) (n := 4) (by omega)
  have s2 : (7 : Int) ^ 4 = 2401 := by decide
  rw [s2] at hpc2
  have hl' := hl
  obtain ⟨u0, u1, d0, d1, m0, m1⟩ := hl'
  intro q
  induction q with
  | zero =>
    intro i hi
    refine Ev.step (fun k => by rw [spec_LatticesInside.l2]) ?_
    rw [bnd (l01Power_ev h (show (c : Int) ≤ 22 by omega)), Int.toNat_natCast]
    simp only [if_neg (show ¬ (i : Int) < p ^ c by omega)]
    have hi' : i = (p ^ c).toNat := by omega
    have hml : (mixes p u m n c i).length ≤ 2401 := by rw [mixes_length]; omega
    rw [bnd (sorted_ev (show (mixes p u m n c i).length ≤ 10000 by omega))]
    have hil : (isortL [] (mixes p u m n c i)).length = (mixes p u m n c i).length := by have := (isortL_perm (mixes p u m n c i) []).length_eq; rwa [List.nil_append] at this
    have := insideS_l3 (p := p) (m := m) (R := R) ⟨d0, d1⟩ ⟨u0, u1⟩ hn hc (base := rowsS p u m d n c) (by have := rowsS_len (u := u) (m := m) (d := d) (n := n) (c := c) h (by omega); omega) (isortL [] (mixes p u m n c i)) [] (by rw [List.nil_append]; omega) (by
      rw [List.nil_append, hi', ← rowsS_succ]; exact hR)
    rw [List.map_nil, List.append_nil, List.nil_append] at this
    exact this
  | succ q ih =>
    intro i hi
    have hlt : (i : Int) < p ^ c := by omega
    obtain ⟨a1, a2, a3, a4, a5, a6, a7⟩ := inside_num (d := d) h hl hn hc hu hlt
    refine Ev.step (fun k => by rw [spec_LatticesInside.l2]) ?_
    rw [bnd (l01Power_ev h (show (c : Int) ≤ 22 by omega)), Int.toNat_natCast]
    have ew : wrap64 ((n : Int) - c) = ((n - c : Nat) : Int) := by rw [wrap_id (by omega) (by omega)]; omega
    simp only [if_pos hlt, ew]
    rw [bnd (l01Power_ev h (show ((n - c : Nat) : Int) ≤ 22 by omega)), Int.toNat_natCast]
    simp only [l01MulMod_eq a1 (show p ^ (u.toNat + c) ≤ 100000000000 by omega), Option.bind_some]
    rw [bnd (l01Power_ev h (show u ≤ 22 by omega))]
    have ec : (i : Int) * p ^ u.toNat = p ^ u.toNat * i := Int.mul_comm _ _
    have e2 : wrap64 (m * p ^ (n - c) % p ^ (u.toNat + c) + wrap64 ((i : Int) * p ^ u.toNat)) = m * p ^ (n - c) % p ^ (u.toNat + c) + (i : Int) * p ^ u.toNat := by
      rw [wrap_id (x := (i : Int) * p ^ u.toNat) (by omega) (by omega), wrap_id (by omega) (by omega)]
    have e3 : Int.tmod (m * p ^ (n - c) % p ^ (u.toNat + c) + (i : Int) * p ^ u.toNat) (p ^ (u.toNat + c)) = mixAt p u m n c i := by
      unfold mixAt; rw [Int.tmod_eq_emod_of_nonneg (by omega)]
    have e6 : wrap64 ((i : Int) + 1) = ((i + 1 : Nat) : Int) := by rw [wrap_id (by omega) (by omega)]; omega
    simp only [if_neg (Int.ne_of_gt a1), if_pos (show (mixes p u m n c i).length < 17592186044416 from lt_big (by rw [mixes_length]; exact Nat.le_trans (Nat.le_of_lt (Int.ofNat_lt.1 a7)) (by decide))), e2, e3, e6]
    rw [← mixes_succ]
    exact ih (i + 1) (by omega)
theorem insideS_l1 {p u m d : Int} {n : Nat} (h : IsP p) (hl : Lat p u m d) (hn : n ≤ 4) (hu : u + n ≤ 12) :
    ∀ q c : Nat, c + q = n + 1 → Ev (fun k => spec_LatticesInside.l1 k p n (rowsS p u m d n c) c u m d) (rowsS p u m d n (n + 1), 0) := by
  intro q
  induction q with
  | zero =>
    intro c hc
    obtain rfl : c = n + 1 := by omega
    refine Ev.step (fun k => by rw [spec_LatticesInside.l1]) ?_
    simp only [if_neg (show ¬ (((n + 1 : Nat) : Int) ≤ (n : Int)) by omega)]
    exact Ev.now _
  | succ q ih =>
    intro c hc
    have hl' := hl
    obtain ⟨u0, u1, d0, d1, m0, m1⟩ := hl'
    refine Ev.step (fun k => by rw [spec_LatticesInside.l1]) ?_
    have e4 : wrap64 (u + c) = u + c := wrap_id (by omega) (by omega)
    simp only [if_pos (show (c : Int) ≤ (n : Int) by omega), e4]
    rw [bnd (l01Power_ev h (show u + c ≤ 22 by omega)), show (u + c).toNat = u.toNat + c by omega]
    exact insideS_l2 h hl hn (show c ≤ n by omega) hu (ih (c + 1) (by omega)) (p ^ c).toNat 0 (by omega)
def csL (p : Int) : Nat → Int
  | 0 => 0
  | c + 1 => cntL p c
theorem insideS_l0 {p u m d : Int} {n : Nat} {R : List S27 × Int} (h : IsP p) (hn : n ≤ 4)
    (hR : Ev (fun k => if cntL p n > 100 then (some (([] : List S27), (3 : Int))) else (if (wrap64 (u + n)) > 12 then (some ([], 3)) else (if (wrap64 (d + n)) > 12 then (some ([], 3)) else (spec_LatticesInside.l1 k p n [] 0 u m d)))) R) :
    ∀ q c : Nat, c + q = n + 1 → Ev (fun k => spec_LatticesInside.l0 k p n (csL p c) c u m d) R := by
  intro q
  induction q with
  | zero =>
    intro c hc
    obtain rfl : c = n + 1 := by omega
    refine Ev.step (fun k => by rw [spec_LatticesInside.l0]) ?_
    simp only [if_neg (show ¬ (((n + 1 : Nat) : Int) ≤ (n : Int)) by omega), show csL p (n + 1) = cntL p n from rfl]
    exact hR
  | succ q ih =>
    intro c hc
    refine Ev.step (fun k => by rw [spec_LatticesInside.l0]) ?_
    simp only [if_pos (show (c : Int) ≤ (n : Int) by omega)]
    rw [bnd (l01Power_ev h (show (c : Int) ≤ 22 by omega)), Int.toNat_natCast]
    have e1 : wrap64 ((c : Int) + 1) = ((c + 1 : Nat) : Int) := by rw [wrap_id (by omega) (by omega)]; omega
    have e2 : csL p c + p ^ c = csL p (c + 1) := by
      cases c with
      | zero => show (0 : Int) + p ^ 0 = 1; rw [Int.pow_zero]; rfl
      | succ c => rfl
    have b := (cnt_eq h (show c ≤ 4 by omega)).2
    have e3 : wrap64 (csL p (c + 1)) = csL p (c + 1) := by rw [show csL p (c + 1) = cntL p c from rfl]; exact wrap_id (by omega) (by omega)
    simp only [e1, e2, e3]
    exact ih (c + 1) (by omega)
theorem specInside_ev {p u m d n : Int} : Ev (fun k => spec_LatticesInside.f k p u m d n) (InsR p u m d n) := by
  unfold spec_LatticesInside.f
  rw [bnd l03Code1]
  unfold InsR
  by_cases h : IsP p ∧ Lat p u m d
  · simp only [if_pos h, if_true, l01In_eq, Option.bind_some]
    obtain ⟨hp, hl⟩ := h
    by_cases h4 : 0 ≤ n ∧ n ≤ 4
    · simp only [decide_eq_true h4, if_true, if_pos h4]
      obtain ⟨n, rfl⟩ : ∃ k : Nat, n = k := ⟨n.toNat, by omega⟩
      have hn : n ≤ 4 := by omega
      have hl' := hl
      obtain ⟨u0, u1, d0, d1, m0, m1⟩ := hl'
      have e4 : wrap64 (u + n) = u + n := wrap_id (by omega) (by omega)
      have e5 : wrap64 (d + n) = d + n := wrap_id (by omega) (by omega)
      refine insideS_l0 hp hn ?_ (n + 1) 0 (by omega)
      simp only [e4, e5, Int.toNat_natCast]
      by_cases g1 : cntL p n > 100
      · simp only [if_pos g1]; exact Ev.now _
      · simp only [if_neg g1]
        by_cases g2 : u + n > 12
        · simp only [if_pos g2]; exact Ev.now _
        · simp only [if_neg g2]
          by_cases g3 : d + n > 12
          · simp only [if_pos g3]; exact Ev.now _
          · simp only [if_neg g3]
            exact insideS_l1 hp hl hn (by omega) (n + 1) 0 (by omega)
    · simp only [decide_eq_false h4, if_neg Bool.false_ne_true, if_neg h4]
      exact Ev.now _
  · simp only [if_neg h, if_neg (show ¬ (1 : Int) = 0 by omega)]
    exact Ev.now _
def FnExactLatticesInsidePure : Prop := ∀ (a0 : Int) (a1_0 : Int) (a1_1 : Int) (a1_2 : Int) (a2 : Int), (Lit.int .i64 a0).wf = true → (Lit.int .i64 a1_0).wf = true → (Lit.int .i64 a1_1).wf = true → (Lit.int .i64 a1_2).wf = true → (Lit.int .i64 a2).wf = true → ∃ k, laws_FnExactLatticesInside.f k a0 a1_0 a1_1 a1_2 a2 = some true
theorem FnExactLatticesInside : FnExactLatticesInsidePure := by
  intro a0 a1 a2 a3 a4 w0 w1 w2 w3 w4
  refine Ev.rounds (g := fun k => laws_FnExactLatticesInside.f k a0 a1 a2 a3 a4) ?_
  unfold laws_FnExactLatticesInside.f
  simp only [laws_toLattice.f, Option.bind_some]
  have hd := @implInside_ev a0 a1 a2 a3 a4
  have hl := InsR_length a0 a1 a2 a3 a4
  rw [bnd (@specInside_ev a0 a1 a2 a3 a4), bnd hd, bnd (eqLats_ev _ (by omega))]
  simp only [if_true, bne_self_eq_false]
  refine Ev.step (fun k => by rw [laws_FnExactLatticesInside.j0]) ?_
  simp only [if_neg Bool.false_ne_true, laws_toLattice.f, Option.bind_some]
  rw [bnd (markLats_ev (by omega) (by omega) (by omega))]
  rw [bnd (heldLats_ev (by omega) (by omega) (by omega))]
  simp only [if_neg (show ¬ ((1 : Int) + 3 * ((InsR a0 a1 a2 a3 a4).1.length : Int) < 0) by omega), if_true]
  rw [bnd hd, bnd (eqLats_ev _ (by omega))]
  simp only [if_true, bne_self_eq_false]
  refine Ev.step (fun k => by rw [laws_FnExactLatticesInside.j1]) ?_
  simp only [if_neg Bool.false_ne_true]
  rw [bnd (heldLats_ev (by omega) (by omega) (by omega))]
  simp only [if_neg (show ¬ ((1 : Int) + 3 * ((InsR a0 a1 a2 a3 a4).1.length : Int) < 0) by omega), if_true]
  exact Ev.now _

end Go.Proofs.Ytkfodnlogflcpaa.Pure

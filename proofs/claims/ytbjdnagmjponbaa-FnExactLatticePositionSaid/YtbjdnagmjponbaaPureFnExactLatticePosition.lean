/- LatticePosition and the reference's LatticePosition answer the same for every prime and every two lattices, in memory of their own. No condition. -/
import Derived.Test.YtbjdnagmjponbaaPFnExactLatticePositionx7
import Derived.Test.YtbjdnagmjponbaaMath
namespace Go.Proofs.Ytbjdnagmjponbaa.Pure
open Go.RowKit Go.Proofs.Ytbjdnagmjponbaa.PFnExactLatticePosition Go.Proofs.YtbjdnagmjponbaaW.PrintWords Go.Proofs.YtbjdnagmjponbaaW.PrintLast Go.Proofs.YtbjdnagmjponbaaW.PrintMore Go.Proofs.Ytbjdnagmjponbaa.Math
set_option linter.unusedVariables false
set_option linter.unusedSimpArgs false
theorem isPrime_eq (p : Int) : impl_isPrime.f p = some (decide (IsP p)) := by
  unfold impl_isPrime.f IsP
  by_cases h2 : p = 2
  · subst h2; rfl
  by_cases h3 : p = 3
  · subst h3; rfl
  by_cases h5 : p = 5
  · subst h5; rfl
  by_cases h7 : p = 7
  · subst h7; rfl
  simp [h2, h3, h5, h7]
theorem l01Prime_eq (p : Int) : spec_l01Prime.f p = some (decide (IsP p)) := by
  unfold spec_l01Prime.f IsP
  by_cases h2 : p = 2
  · subst h2; rfl
  by_cases h3 : p = 3
  · subst h3; rfl
  by_cases h5 : p = 5
  · subst h5; rfl
  by_cases h7 : p = 7
  · subst h7; rfl
  simp [h2, h3, h5, h7]
theorem l01In_eq (n a b : Int) : spec_l01In.f n a b = some (decide (a ≤ n ∧ n ≤ b)) := by
  unfold spec_l01In.f
  by_cases h : n ≥ a
  · rw [if_pos h]; simp [h]
  · rw [if_neg h]; simp; omega
theorem power_l {p : Int} (h : IsP p) (n : Nat) (hn : p ^ n ≤ 9223372036854775807) (hn' : n ≤ 1000) : ∀ d i, i + d = n → Ev (fun k => impl_power.l0 k p (p ^ i) n i) (p ^ n) := by
  intro d
  induction d with
  | zero =>
    intro i hi
    obtain rfl : i = n := by omega
    refine Ev.step (fun k => by rw [impl_power.l0]) ?_
    simp only [if_neg (Int.lt_irrefl _)]
    exact Ev.now _
  | succ d ih =>
    intro i hi
    refine Ev.step (fun k => by rw [impl_power.l0]) ?_
    have h1 : (i : Int) < n := by omega
    have h2 := pow_pos' h (i + 1)
    have h3 := pow_mono h (m := i + 1) (n := n) (by omega)
    have e1 : wrap64 (p ^ i * p) = p ^ (i + 1) := by rw [← show p ^ (i + 1) = p ^ i * p from Int.pow_succ p i]; exact wrap_id (by omega) (by omega)
    have e2 : wrap64 ((i : Int) + 1) = ((i + 1 : Nat) : Int) := by rw [wrap_id (by omega) (by omega)]; omega
    simp only [if_pos h1, e1, e2]
    exact ih (i + 1) (by omega)
theorem power_big {p : Int} (h : IsP p) {n : Nat} (hn : p ^ n ≤ 9223372036854775807) (hn' : n ≤ 1000) : Ev (fun k => impl_power.f k p n) (p ^ n) := by
  unfold impl_power.f
  have := power_l h n hn hn' n 0 (by omega)
  rw [Int.pow_zero] at this
  exact this
theorem power_ev {p : Int} (h : IsP p) {n : Int} (hn : n ≤ 22) : Ev (fun k => impl_power.f k p n) (p ^ n.toNat) := by
  by_cases h0 : 0 ≤ n
  · have := power_big h (n := n.toNat) (by have := pow_le_22 h (n := n.toNat) (by omega); omega) (by omega)
    rw [Int.toNat_of_nonneg h0] at this
    exact this
  · unfold impl_power.f
    refine Ev.step (fun k => by rw [impl_power.l0]) ?_
    have e : n.toNat = 0 := by omega
    simp only [if_neg (show ¬ (0 : Int) < n by omega), e, Int.pow_zero]
    exact Ev.now _
theorem l01Power_l {p : Int} (h : IsP p) : ∀ (d : Nat) (i : Nat), p ^ (i + d) ≤ 9223372036854775807 → i + d ≤ 1000 → Ev (fun k => spec_l01Power.l0 k p d (p ^ i)) (p ^ (i + d)) := by
  intro d
  induction d with
  | zero =>
    intro i _ _
    refine Ev.step (fun k => by rw [spec_l01Power.l0]) ?_
    simp only [if_neg (show ¬ ((0 : Nat) : Int) > 0 by omega)]
    exact Ev.now _
  | succ d ih =>
    intro i hi hi'
    refine Ev.step (fun k => by rw [spec_l01Power.l0]) ?_
    have h2 := pow_pos' h (i + 1)
    have h3 := pow_mono h (m := i + 1) (n := i + (d + 1)) (by omega)
    have e1 : wrap64 (p ^ i * p) = p ^ (i + 1) := by rw [← show p ^ (i + 1) = p ^ i * p from Int.pow_succ p i]; exact wrap_id (by omega) (by omega)
    have e2 : wrap64 (((d + 1 : Nat) : Int) - 1) = (d : Int) := by rw [wrap_id (by omega) (by omega)]; omega
    simp only [if_pos (show ((d + 1 : Nat) : Int) > 0 by omega), e1, e2]
    have e3 : i + (d + 1) = i + 1 + d := by omega
    rw [e3] at hi ⊢
    exact ih (i + 1) hi (by omega)
theorem l01Power_big {p : Int} (h : IsP p) {n : Nat} (hn : p ^ n ≤ 9223372036854775807) (hn' : n ≤ 1000) : Ev (fun k => spec_l01Power.f k p n) (p ^ n) := by
  unfold spec_l01Power.f
  have := l01Power_l h n 0 (by rw [Nat.zero_add]; exact hn) (by omega)
  rw [Int.pow_zero, Nat.zero_add] at this
  exact this
theorem l01Power_ev {p : Int} (h : IsP p) {n : Int} (hn : n ≤ 22) : Ev (fun k => spec_l01Power.f k p n) (p ^ n.toNat) := by
  by_cases h0 : 0 ≤ n
  · have := l01Power_big h (n := n.toNat) (by have := pow_le_22 h (n := n.toNat) (by omega); omega) (by omega)
    rw [Int.toNat_of_nonneg h0] at this
    exact this
  · unfold spec_l01Power.f
    refine Ev.step (fun k => by rw [spec_l01Power.l0]) ?_
    have e : n.toNat = 0 := by omega
    simp only [if_neg (show ¬ n > 0 by omega), e, Int.pow_zero]
    exact Ev.now _
theorem l01Val_l {p : Int} (h : IsP p) : ∀ (v : Nat) (u : Int) (n : Int), ¬ p ∣ u → -9223372036854775807 ≤ p ^ v * u → p ^ v * u ≤ 9223372036854775807 → 0 ≤ n → n + v ≤ 1000 → Ev (fun k => spec_l01Val.l0 k p (p ^ v * u) n) (n + v) := by
  intro v
  induction v with
  | zero =>
    intro u n hu h0 h1 hn hv
    refine Ev.step (fun k => by rw [spec_l01Val.l0]) ?_
    have hne : ¬ Int.tmod (p ^ 0 * u) p = 0 := fun e => by
      rw [tmod_zero_iff, Int.pow_zero, Int.one_mul] at e; exact hu e
    simp only [if_neg h.ne, if_neg hne]
    exact ev_some (by simp)
  | succ v ih =>
    intro u n hu h0 h1 hn hv
    refine Ev.step (fun k => by rw [spec_l01Val.l0]) ?_
    have e0 : p ^ (v + 1) * u = p * (p ^ v * u) := by rw [Int.pow_succ, Int.mul_comm (p ^ v) p, Int.mul_assoc]
    have hd : Int.tmod (p ^ (v + 1) * u) p = 0 := by rw [tmod_zero_iff, e0]; exact Int.dvd_mul_right _ _
    have e1 : Int.tdiv (p ^ (v + 1) * u) p = p ^ v * u := by rw [e0]; exact tdiv_mul_left h.ne
    have hb := tdiv_bounds (n := p ^ (v + 1) * u) (m := p)
    rw [e1] at hb
    have e2 : wrap64 (p ^ v * u) = p ^ v * u := wrap_id (by omega) (by omega)
    have e3 : wrap64 (n + 1) = n + 1 := wrap_id (by omega) (by omega)
    simp only [if_neg h.ne, if_pos hd, e1, e2, e3]
    exact ev_eq (ih u (n + 1) hu (by omega) (by omega) (by omega) (by omega)) (by omega)
theorem l01Val_ev {p : Int} (h : IsP p) {x : Int} (hx : x ≠ 0) (h0 : -9223372036854775807 ≤ x) (h1 : x ≤ 9223372036854775807) : Ev (fun k => spec_l01Val.f k p x) (vl p x) := by
  unfold spec_l01Val.f
  obtain ⟨u, hu, hnd, _⟩ := vl_split h x hx
  have hv := vl_le_62 h hx h0 h1
  have := l01Val_l h (vl p x) u 0 hnd (by omega) (by omega) (by omega) (by omega)
  rw [← hu, Int.zero_add] at this
  exact this
theorem IsLattice_ev {p u m d : Int} :
    Ev (fun k => impl_IsLattice.f k p u m d) (decide (IsP p ∧ Lat p u m d)) := by
  unfold impl_IsLattice.f
  simp only [isPrime_eq, Option.bind_some]
  by_cases hp : IsP p
  · simp only [hp, decide_true, if_true]
    by_cases h1 : u ≥ 0
    · simp only [if_pos h1]
      by_cases h2 : u ≤ 12
      · simp only [if_pos h2]
        by_cases h3 : d ≥ 0
        · simp only [if_pos h3]
          by_cases h4 : d ≤ 12
          · simp only [if_pos h4]
            by_cases h5 : m ≥ 0
            · simp only [if_pos h5]
              rw [bnd (power_ev hp (by omega))]
              exact ev_dec (by unfold Lat; simp; omega)
            · simp only [if_neg h5]
              exact ev_dec (by unfold Lat; simp; omega)
          · simp only [if_neg h4]
            exact ev_dec (by unfold Lat; simp; omega)
        · simp only [if_neg h3]
          exact ev_dec (by unfold Lat; simp; omega)
      · simp only [if_neg h2]
        exact ev_dec (by unfold Lat; simp; omega)
    · simp only [if_neg h1]
      exact ev_dec (by unfold Lat; simp; omega)
  · simp only [hp, decide_false, if_neg Bool.false_ne_true]
    exact ev_dec (by simp)
theorem l03Is_ev {p u m d : Int} :
    Ev (fun k => spec_l03Is.f k p u m d) (decide (IsP p ∧ Lat p u m d)) := by
  unfold spec_l03Is.f
  simp only [l01Prime_eq, l01In_eq, Option.bind_some]
  have bad : ∀ {c : Prop} [Decidable c], ¬ c → Ev (fun k => spec_l03Is.j0 k p true u m d) (decide c) := by
    intro c _ hc
    refine Ev.step (fun k => by rw [spec_l03Is.j0]) ?_
    simp only [if_true]
    exact ev_some (by simp [hc])
  by_cases hp : IsP p
  · simp only [hp, decide_true, if_true]
    by_cases h1 : 0 ≤ u ∧ u ≤ 12
    · simp only [h1, decide_true, if_true, and_self]
      by_cases h2 : 0 ≤ d ∧ d ≤ 12
      · simp only [h2, decide_true, and_self, Bool.not_true]
        refine Ev.step (fun k => by rw [spec_l03Is.j0]) ?_
        simp only [if_neg Bool.false_ne_true]
        rw [bnd (l01Power_ev hp (by omega))]
        have hpw := pow_pos' hp u.toNat
        have hpw2 := pow_le_22 hp (n := u.toNat) (by omega)
        have e2 : wrap64 (p ^ u.toNat - 1) = p ^ u.toNat - 1 := wrap_id (by omega) (by omega)
        simp only [l01In_eq, Option.bind_some, e2]
        exact ev_dec (by unfold Lat; simp; omega)
      · simp only [h2, decide_false, Bool.not_false]
        exact bad (by unfold Lat; omega)
    · simp only [h1, decide_false, if_neg Bool.false_ne_true]
      exact bad (by unfold Lat; omega)
  · simp only [hp, decide_false, if_neg Bool.false_ne_true]
    exact bad (by simp)
def LatOk (p : Int) (b : S36) : Prop := Lat p b.f0 b.f1 b.f2
instance (p : Int) (b : S36) : Decidable (LatOk p b) := by unfold LatOk; infer_instance
theorem rd_lat_at (pre : List S36) (b : S36) (ys : List S36) : rd_T36 (pre ++ b :: ys) (pre.length : Int) = b := by
  unfold rd_T36
  simp [List.getD_eq_getElem?_getD]
theorem l03Code_l {p : Int} (hp : IsP p) : ∀ (ys pre : List S36), (pre ++ ys).length ≤ 1000 → Ev (fun k => spec_l03Code.l0 k p (pre ++ ys) pre.length) (if ∀ b ∈ ys, LatOk p b then 0 else 1) := by
  intro ys
  induction ys with
  | nil =>
    intro pre _
    refine Ev.step (fun k => by rw [spec_l03Code.l0]) ?_
    simp only [List.append_nil, if_neg (Int.lt_irrefl _)]
    exact ev_some (by simp)
  | cons b ys ih =>
    intro pre hl
    refine Ev.step (fun k => by rw [spec_l03Code.l0]) ?_
    have hl' : (pre ++ b :: ys).length = pre.length + (ys.length + 1) := by simp
    have h1 : (pre.length : Int) < ((pre ++ b :: ys).length : Int) := by omega
    simp only [if_pos h1, if_pos (show (0 : Int) ≤ (pre.length : Int) by omega), rd_lat_at]
    rw [bnd l03Is_ev]
    by_cases hB : Lat p b.f0 b.f1 b.f2
    · simp only [hp, hB, and_self, decide_true, if_true]
      have e : wrap64 ((pre.length : Int) + 1) = ((pre ++ [b]).length : Int) := by rw [wrap_id (by omega) (by omega)]; simp
      have := ih (pre ++ [b]) (by simpa using hl)
      rw [e]
      simp only [List.append_assoc, List.singleton_append] at this
      refine ev_eq this ?_
      have : (∀ c ∈ b :: ys, LatOk p c) ↔ (∀ c ∈ ys, LatOk p c) := by simp [LatOk, hB]
      simp only [this]
    · simp only [hp, hB, and_false, decide_false, if_neg Bool.false_ne_true]
      refine ev_some ?_
      rw [if_neg]
      intro hall
      exact hB (hall b (by simp))
theorem l03Code_ev {p : Int} {ys : List S36} (hl : ys.length ≤ 1000) : Ev (fun k => spec_l03Code.f k p ys) (if IsP p ∧ ∀ b ∈ ys, LatOk p b then 0 else 1) := by
  unfold spec_l03Code.f
  simp only [l01Prime_eq, Option.bind_some]
  by_cases hp : IsP p
  · simp only [hp, decide_true, if_true, true_and]
    exact l03Code_l hp ys [] (by simpa using hl)
  · simp only [hp, decide_false, if_neg Bool.false_ne_true, false_and, if_false]
    exact Ev.now _
theorem l03Code2 {p l t d l' t' d' : Int} : Ev (fun k => spec_l03Code.f k p [⟨l, t, d⟩, ⟨l', t', d'⟩]) (if IsP p ∧ Lat p l t d ∧ Lat p l' t' d' then 0 else 1) := by
  refine ev_eq (l03Code_ev (by simp)) ?_
  simp [LatOk]
theorem areLattices_l {p : Int} : ∀ (ys pre : List S36), (pre ++ ys).length ≤ 1000 → Ev (fun k => impl_areLattices.l0 k p (pre ++ ys) ((pre ++ ys).length : Int) pre.length) (decide (∀ b ∈ ys, IsP p ∧ LatOk p b)) := by
  intro ys
  induction ys with
  | nil =>
    intro pre _
    refine Ev.step (fun k => by rw [impl_areLattices.l0]) ?_
    simp only [List.append_nil, if_neg (Int.lt_irrefl _)]
    exact ev_some (by simp)
  | cons b ys ih =>
    intro pre hl
    refine Ev.step (fun k => by rw [impl_areLattices.l0]) ?_
    have hl' : (pre ++ b :: ys).length = pre.length + (ys.length + 1) := by simp
    have h1 : (pre.length : Int) < ((pre ++ b :: ys).length : Int) := by omega
    simp only [if_pos h1, if_pos (show (0 : Int) ≤ (pre.length : Int) by omega), rd_lat_at]
    rw [bnd IsLattice_ev]
    by_cases hB : IsP p ∧ Lat p b.f0 b.f1 b.f2
    · simp only [hB, and_self, decide_true, if_true]
      have e : wrap64 ((pre.length : Int) + 1) = ((pre ++ [b]).length : Int) := by rw [wrap_id (by omega) (by omega)]; simp
      have := ih (pre ++ [b]) (by simpa using hl)
      rw [e]
      simp only [List.append_assoc, List.singleton_append] at this
      refine ev_eq this ?_
      rw [decide_eq_decide]
      simp [LatOk, hB]
    · simp only [hB, decide_false, if_neg Bool.false_ne_true]
      refine ev_some ?_
      symm
      rw [decide_eq_false_iff_not]
      intro hall
      exact hB (hall b (by simp))
theorem areLattices2 {p l t d l' t' d' : Int} : Ev (fun k => impl_areLattices.f k p [⟨l, t, d⟩, ⟨l', t', d'⟩]) (decide (IsP p ∧ Lat p l t d ∧ Lat p l' t' d')) := by
  unfold impl_areLattices.f
  refine ev_eq (areLattices_l _ [] (by simp)) ?_
  by_cases hp : IsP p
  · simp [LatOk, hp]
  · rw [decide_eq_false (fun h => hp (h _ (List.mem_cons_self ..)).1), decide_eq_false (fun h => hp h.1)]
theorem rd_at (pre : List Int) (b : Int) (ys : List Int) : rd (pre ++ b :: ys) (pre.length : Int) = b := by
  unfold rd
  simp [List.getD_eq_getElem?_getD]
theorem l01MulMod_eq {a b m : Int} (h0 : 0 < m) (h1 : m ≤ 100000000000) : spec_l01MulMod.f a b m = some (a * b % m) := by
  unfold spec_l01MulMod.f
  have ha := mod_between (n := a) h0
  have hb := mod_between (n := b) h0
  have ea : wrap64 (Int.tmod a m + m) = Int.tmod a m + m := wrap_id (by omega) (by omega)
  have eb : wrap64 (Int.tmod b m + m) = Int.tmod b m + m := wrap_id (by omega) (by omega)
  have a0 := Int.emod_nonneg a (Int.ne_of_gt h0)
  have a1 := Int.emod_lt_of_pos a h0
  have b0 := Int.emod_nonneg b (Int.ne_of_gt h0)
  have b1 := Int.emod_lt_of_pos b h0
  rw [if_neg (Int.ne_of_gt h0)]
  simp only [ea, eb, mod_eq h0]
  rw [Int.tmod_eq_emod_of_nonneg b0, Int.tdiv_eq_ediv_of_nonneg b0]
  have hq0 : 0 ≤ b % m / 1000000 := by omega
  have hq1 : b % m / 1000000 ≤ 100000 := by omega
  have hr0 : 0 ≤ b % m % 1000000 := by omega
  have hr1 : b % m % 1000000 ≤ 1000000 := by omega
  have eq : wrap64 (b % m / 1000000) = b % m / 1000000 := wrap_id (by omega) (by omega)
  rw [eq]
  have p1 : 0 ≤ a % m * (b % m / 1000000) := Int.mul_nonneg a0 hq0
  have p2 : a % m * (b % m / 1000000) ≤ 100000000000 * 100000 := Int.mul_le_mul (by omega) hq1 hq0 (by omega)
  have p3 : 0 ≤ a % m * (b % m % 1000000) := Int.mul_nonneg a0 hr0
  have p4 : a % m * (b % m % 1000000) ≤ 100000000000 * 1000000 := Int.mul_le_mul (by omega) hr1 hr0 (by omega)
  rw [wrap_id (x := a % m * (b % m / 1000000)) (by omega) (by omega), wrap_id (x := a % m * (b % m % 1000000)) (by omega) (by omega)]
  rw [Int.tmod_eq_emod_of_nonneg p1, Int.tmod_eq_emod_of_nonneg p3]
  have c0 := Int.emod_nonneg (a % m * (b % m / 1000000)) (Int.ne_of_gt h0)
  have c1 := Int.emod_lt_of_pos (a % m * (b % m / 1000000)) h0
  have d0 := Int.emod_nonneg (a % m * (b % m % 1000000)) (Int.ne_of_gt h0)
  have d1 := Int.emod_lt_of_pos (a % m * (b % m % 1000000)) h0
  rw [wrap_id (x := a % m * (b % m / 1000000) % m * 1000000) (by omega) (by omega)]
  have e0 : 0 ≤ a % m * (b % m / 1000000) % m * 1000000 := by omega
  rw [Int.tmod_eq_emod_of_nonneg e0]
  have f0 := Int.emod_nonneg (a % m * (b % m / 1000000) % m * 1000000) (Int.ne_of_gt h0)
  have f1 := Int.emod_lt_of_pos (a % m * (b % m / 1000000) % m * 1000000) h0
  rw [wrap_id (by omega) (by omega), Int.tmod_eq_emod_of_nonneg (by omega), mulmod_eq]
theorem eqInt_l (l : List Int) (hl : l.length ≤ 1000000) : ∀ d i : Nat, i + d = l.length → Ev (fun k => laws_eqInt64S.l0 k l l i) true := by
  intro d
  induction d with
  | zero =>
    intro i hi
    refine Ev.step (fun k => by rw [laws_eqInt64S.l0]) ?_
    simp only [if_neg (show ¬ (i : Int) < (l.length : Int) by omega)]
    exact Ev.now _
  | succ d ih =>
    intro i hi
    refine Ev.step (fun k => by rw [laws_eqInt64S.l0]) ?_
    have e : wrap64 ((i : Int) + 1) = ((i + 1 : Nat) : Int) := by rw [wrap_id (by omega) (by omega)]; omega
    simp only [if_pos (show (i : Int) < (l.length : Int) by omega), if_pos (show (0 : Int) ≤ i by omega), if_true, e]
    exact ih (i + 1) (by omega)
theorem eqInt_ev (l : List Int) (hl : l.length ≤ 1000000) : Ev (fun k => laws_eqInt64S.f k l l) true := by
  unfold laws_eqInt64S.f
  simp only [if_true]
  exact eqInt_l l hl l.length 0 (by omega)
def ups (a : Int) : Nat → List Int
  | 0 => []
  | n + 1 => a :: ups (a + 1) n
theorem ups_length (a : Int) (n : Nat) : (ups a n).length = n := by
  induction n generalizing a with
  | zero => rfl
  | succ n ih => simp [ups, ih]
theorem set_at (pre : List Int) (b c : Int) (ys : List Int) : (pre ++ b :: ys).set (pre.length : Int).toNat c = pre ++ c :: ys := by
  simp
theorem markInt_l : ∀ (ys pre : List Int) (a : Int), (pre ++ ys).length ≤ 1000000 → 0 ≤ a → a + ys.length ≤ 1000000000 → Ev (fun k => laws_markInt64S.l0 k (pre ++ ys) a pre.length) (a + ys.length, pre ++ ups a ys.length) := by
  intro ys
  induction ys with
  | nil =>
    intro pre a hl h0 h1
    refine Ev.step (fun k => by rw [laws_markInt64S.l0]) ?_
    simp only [List.append_nil, if_neg (Int.lt_irrefl _)]
    exact ev_some (by simp [ups])
  | cons b ys ih =>
    intro pre a hl h0 h1
    refine Ev.step (fun k => by rw [laws_markInt64S.l0]) ?_
    have hl' : (pre ++ b :: ys).length = pre.length + (ys.length + 1) := by simp
    have hlt : (pre.length : Int) < ((pre ++ b :: ys).length : Int) := by omega
    rw [List.length_cons] at h1
    have e1 : wrap64 (a + 1) = a + 1 := wrap_id (by omega) (by omega)
    have e2 : wrap64 ((pre.length : Int) + 1) = ((pre ++ [a]).length : Int) := by rw [wrap_id (by omega) (by omega)]; simp
    simp only [if_pos hlt, if_pos (show (0 : Int) ≤ (pre.length : Int) by omega), set_at, e1, e2]
    have := ih (pre ++ [a]) (a + 1) (by simpa using hl) (by omega) (by omega)
    simp only [List.append_assoc, List.singleton_append] at this
    refine ev_eq this ?_
    simp [ups]
    omega
theorem markInt_ev {ys : List Int} {a : Int} (hl : ys.length ≤ 1000000) (h0 : 0 ≤ a) (h1 : a ≤ 1000000) : Ev (fun k => laws_markInt64S.f k ys a) (a + ys.length, ups a ys.length) := by
  unfold laws_markInt64S.f
  exact markInt_l ys [] a (by simpa using hl) h0 (by omega)
theorem heldInt_l : ∀ (n : Nat) (pre : List Int) (a : Int), pre.length + n ≤ 1000000 → 0 ≤ a → a + n ≤ 1000000000 → Ev (fun k => laws_heldInt64S.l0 k (pre ++ ups a n) a pre.length) (a + n) := by
  intro n
  induction n with
  | zero =>
    intro pre a hl h0 h1
    refine Ev.step (fun k => by rw [laws_heldInt64S.l0]) ?_
    simp only [ups, List.append_nil, if_neg (Int.lt_irrefl _)]
    exact ev_some (by simp)
  | succ n ih =>
    intro pre a hl h0 h1
    refine Ev.step (fun k => by rw [laws_heldInt64S.l0]) ?_
    have hl' : (pre ++ ups a (n + 1)).length = pre.length + (n + 1) := by simp [ups_length]
    have hlt : (pre.length : Int) < ((pre ++ ups a (n + 1)).length : Int) := by omega
    have e1 : wrap64 (a + 1) = a + 1 := wrap_id (by omega) (by omega)
    have e2 : wrap64 ((pre.length : Int) + 1) = ((pre ++ [a]).length : Int) := by rw [wrap_id (by omega) (by omega)]; simp
    have hrd : rd (pre ++ ups a (n + 1)) (pre.length : Int) = a := rd_at pre a _
    simp only [if_pos hlt, if_pos (show (0 : Int) ≤ (pre.length : Int) by omega), hrd, if_true, e1, e2]
    have := ih (pre ++ [a]) (a + 1) (by simp; omega) (by omega) (by omega)
    simp only [List.append_assoc, List.singleton_append] at this
    refine ev_eq this ?_
    omega
theorem heldInt_ev {n : Nat} {a : Int} (hl : n ≤ 1000000) (h0 : 0 ≤ a) (h1 : a ≤ 1000000) : Ev (fun k => laws_heldInt64S.f k (ups a n) a) (a + n) := by
  unfold laws_heldInt64S.f
  exact heldInt_l n [] a (by simpa using hl) h0 (by omega)
set_option maxRecDepth 100000 in
theorem len8_dec : ∀ n : Fin 256, 1 ≤ n.val → 1 ≤ (bt (⟨#[0, 1, 2, 2, 3, 3, 3, 3, 4, 4, 4, 4, 4, 4, 4, 4, 5, 5, 5, 5, 5, 5, 5, 5, 5, 5, 5, 5, 5, 5, 5, 5, 6, 6, 6, 6, 6, 6, 6, 6, 6, 6, 6, 6, 6, 6, 6, 6, 6, 6, 6, 6, 6, 6, 6, 6, 6, 6, 6, 6, 6, 6, 6, 6, 7, 7, 7, 7, 7, 7, 7, 7, 7, 7, 7, 7, 7, 7, 7, 7, 7, 7, 7, 7, 7, 7, 7, 7, 7, 7, 7, 7, 7, 7, 7, 7, 7, 7, 7, 7, 7, 7, 7, 7, 7, 7, 7, 7, 7, 7, 7, 7, 7, 7, 7, 7, 7, 7, 7, 7, 7, 7, 7, 7, 7, 7, 7, 7, 8, 8, 8, 8, 8, 8, 8, 8, 8, 8, 8, 8, 8, 8, 8, 8, 8, 8, 8, 8, 8, 8, 8, 8, 8, 8, 8, 8, 8, 8, 8, 8, 8, 8, 8, 8, 8, 8, 8, 8, 8, 8, 8, 8, 8, 8, 8, 8, 8, 8, 8, 8, 8, 8, 8, 8, 8, 8, 8, 8, 8, 8, 8, 8, 8, 8, 8, 8, 8, 8, 8, 8, 8, 8, 8, 8, 8, 8, 8, 8, 8, 8, 8, 8, 8, 8, 8, 8, 8, 8, 8, 8, 8, 8, 8, 8, 8, 8, 8, 8, 8, 8, 8, 8, 8, 8, 8, 8, 8, 8, 8, 8, 8, 8, 8, 8, 8, 8, 8, 8, 8, 8, 8, 8, 8, 8, 8, 8]⟩ : ByteArray) (n.val : Int)).toNat ∧ 0 ≤ bt (⟨#[0, 1, 2, 2, 3, 3, 3, 3, 4, 4, 4, 4, 4, 4, 4, 4, 5, 5, 5, 5, 5, 5, 5, 5, 5, 5, 5, 5, 5, 5, 5, 5, 6, 6, 6, 6, 6, 6, 6, 6, 6, 6, 6, 6, 6, 6, 6, 6, 6, 6, 6, 6, 6, 6, 6, 6, 6, 6, 6, 6, 6, 6, 6, 6, 7, 7, 7, 7, 7, 7, 7, 7, 7, 7, 7, 7, 7, 7, 7, 7, 7, 7, 7, 7, 7, 7, 7, 7, 7, 7, 7, 7, 7, 7, 7, 7, 7, 7, 7, 7, 7, 7, 7, 7, 7, 7, 7, 7, 7, 7, 7, 7, 7, 7, 7, 7, 7, 7, 7, 7, 7, 7, 7, 7, 7, 7, 7, 7, 8, 8, 8, 8, 8, 8, 8, 8, 8, 8, 8, 8, 8, 8, 8, 8, 8, 8, 8, 8, 8, 8, 8, 8, 8, 8, 8, 8, 8, 8, 8, 8, 8, 8, 8, 8, 8, 8, 8, 8, 8, 8, 8, 8, 8, 8, 8, 8, 8, 8, 8, 8, 8, 8, 8, 8, 8, 8, 8, 8, 8, 8, 8, 8, 8, 8, 8, 8, 8, 8, 8, 8, 8, 8, 8, 8, 8, 8, 8, 8, 8, 8, 8, 8, 8, 8, 8, 8, 8, 8, 8, 8, 8, 8, 8, 8, 8, 8, 8, 8, 8, 8, 8, 8, 8, 8, 8, 8, 8, 8, 8, 8, 8, 8, 8, 8, 8, 8, 8, 8, 8, 8, 8, 8, 8, 8, 8, 8]⟩ : ByteArray) (n.val : Int) ∧ (bt (⟨#[0, 1, 2, 2, 3, 3, 3, 3, 4, 4, 4, 4, 4, 4, 4, 4, 5, 5, 5, 5, 5, 5, 5, 5, 5, 5, 5, 5, 5, 5, 5, 5, 6, 6, 6, 6, 6, 6, 6, 6, 6, 6, 6, 6, 6, 6, 6, 6, 6, 6, 6, 6, 6, 6, 6, 6, 6, 6, 6, 6, 6, 6, 6, 6, 7, 7, 7, 7, 7, 7, 7, 7, 7, 7, 7, 7, 7, 7, 7, 7, 7, 7, 7, 7, 7, 7, 7, 7, 7, 7, 7, 7, 7, 7, 7, 7, 7, 7, 7, 7, 7, 7, 7, 7, 7, 7, 7, 7, 7, 7, 7, 7, 7, 7, 7, 7, 7, 7, 7, 7, 7, 7, 7, 7, 7, 7, 7, 7, 8, 8, 8, 8, 8, 8, 8, 8, 8, 8, 8, 8, 8, 8, 8, 8, 8, 8, 8, 8, 8, 8, 8, 8, 8, 8, 8, 8, 8, 8, 8, 8, 8, 8, 8, 8, 8, 8, 8, 8, 8, 8, 8, 8, 8, 8, 8, 8, 8, 8, 8, 8, 8, 8, 8, 8, 8, 8, 8, 8, 8, 8, 8, 8, 8, 8, 8, 8, 8, 8, 8, 8, 8, 8, 8, 8, 8, 8, 8, 8, 8, 8, 8, 8, 8, 8, 8, 8, 8, 8, 8, 8, 8, 8, 8, 8, 8, 8, 8, 8, 8, 8, 8, 8, 8, 8, 8, 8, 8, 8, 8, 8, 8, 8, 8, 8, 8, 8, 8, 8, 8, 8, 8, 8, 8, 8, 8, 8]⟩ : ByteArray) (n.val : Int)).toNat ≤ 8 ∧
    2 ^ ((bt (⟨#[0, 1, 2, 2, 3, 3, 3, 3, 4, 4, 4, 4, 4, 4, 4, 4, 5, 5, 5, 5, 5, 5, 5, 5, 5, 5, 5, 5, 5, 5, 5, 5, 6, 6, 6, 6, 6, 6, 6, 6, 6, 6, 6, 6, 6, 6, 6, 6, 6, 6, 6, 6, 6, 6, 6, 6, 6, 6, 6, 6, 6, 6, 6, 6, 7, 7, 7, 7, 7, 7, 7, 7, 7, 7, 7, 7, 7, 7, 7, 7, 7, 7, 7, 7, 7, 7, 7, 7, 7, 7, 7, 7, 7, 7, 7, 7, 7, 7, 7, 7, 7, 7, 7, 7, 7, 7, 7, 7, 7, 7, 7, 7, 7, 7, 7, 7, 7, 7, 7, 7, 7, 7, 7, 7, 7, 7, 7, 7, 8, 8, 8, 8, 8, 8, 8, 8, 8, 8, 8, 8, 8, 8, 8, 8, 8, 8, 8, 8, 8, 8, 8, 8, 8, 8, 8, 8, 8, 8, 8, 8, 8, 8, 8, 8, 8, 8, 8, 8, 8, 8, 8, 8, 8, 8, 8, 8, 8, 8, 8, 8, 8, 8, 8, 8, 8, 8, 8, 8, 8, 8, 8, 8, 8, 8, 8, 8, 8, 8, 8, 8, 8, 8, 8, 8, 8, 8, 8, 8, 8, 8, 8, 8, 8, 8, 8, 8, 8, 8, 8, 8, 8, 8, 8, 8, 8, 8, 8, 8, 8, 8, 8, 8, 8, 8, 8, 8, 8, 8, 8, 8, 8, 8, 8, 8, 8, 8, 8, 8, 8, 8, 8, 8, 8, 8, 8, 8]⟩ : ByteArray) (n.val : Int)).toNat - 1) ≤ n.val ∧ n.val < 2 ^ (bt (⟨#[0, 1, 2, 2, 3, 3, 3, 3, 4, 4, 4, 4, 4, 4, 4, 4, 5, 5, 5, 5, 5, 5, 5, 5, 5, 5, 5, 5, 5, 5, 5, 5, 6, 6, 6, 6, 6, 6, 6, 6, 6, 6, 6, 6, 6, 6, 6, 6, 6, 6, 6, 6, 6, 6, 6, 6, 6, 6, 6, 6, 6, 6, 6, 6, 7, 7, 7, 7, 7, 7, 7, 7, 7, 7, 7, 7, 7, 7, 7, 7, 7, 7, 7, 7, 7, 7, 7, 7, 7, 7, 7, 7, 7, 7, 7, 7, 7, 7, 7, 7, 7, 7, 7, 7, 7, 7, 7, 7, 7, 7, 7, 7, 7, 7, 7, 7, 7, 7, 7, 7, 7, 7, 7, 7, 7, 7, 7, 7, 8, 8, 8, 8, 8, 8, 8, 8, 8, 8, 8, 8, 8, 8, 8, 8, 8, 8, 8, 8, 8, 8, 8, 8, 8, 8, 8, 8, 8, 8, 8, 8, 8, 8, 8, 8, 8, 8, 8, 8, 8, 8, 8, 8, 8, 8, 8, 8, 8, 8, 8, 8, 8, 8, 8, 8, 8, 8, 8, 8, 8, 8, 8, 8, 8, 8, 8, 8, 8, 8, 8, 8, 8, 8, 8, 8, 8, 8, 8, 8, 8, 8, 8, 8, 8, 8, 8, 8, 8, 8, 8, 8, 8, 8, 8, 8, 8, 8, 8, 8, 8, 8, 8, 8, 8, 8, 8, 8, 8, 8, 8, 8, 8, 8, 8, 8, 8, 8, 8, 8, 8, 8, 8, 8, 8, 8, 8, 8]⟩ : ByteArray) (n.val : Int)).toNat := by decide +kernel
set_option maxRecDepth 100000 in
theorem len8_tab {i : Int} (h0 : 1 ≤ i) (h1 : i < 256) : ∃ l : Nat, bt (⟨#[0, 1, 2, 2, 3, 3, 3, 3, 4, 4, 4, 4, 4, 4, 4, 4, 5, 5, 5, 5, 5, 5, 5, 5, 5, 5, 5, 5, 5, 5, 5, 5, 6, 6, 6, 6, 6, 6, 6, 6, 6, 6, 6, 6, 6, 6, 6, 6, 6, 6, 6, 6, 6, 6, 6, 6, 6, 6, 6, 6, 6, 6, 6, 6, 7, 7, 7, 7, 7, 7, 7, 7, 7, 7, 7, 7, 7, 7, 7, 7, 7, 7, 7, 7, 7, 7, 7, 7, 7, 7, 7, 7, 7, 7, 7, 7, 7, 7, 7, 7, 7, 7, 7, 7, 7, 7, 7, 7, 7, 7, 7, 7, 7, 7, 7, 7, 7, 7, 7, 7, 7, 7, 7, 7, 7, 7, 7, 7, 8, 8, 8, 8, 8, 8, 8, 8, 8, 8, 8, 8, 8, 8, 8, 8, 8, 8, 8, 8, 8, 8, 8, 8, 8, 8, 8, 8, 8, 8, 8, 8, 8, 8, 8, 8, 8, 8, 8, 8, 8, 8, 8, 8, 8, 8, 8, 8, 8, 8, 8, 8, 8, 8, 8, 8, 8, 8, 8, 8, 8, 8, 8, 8, 8, 8, 8, 8, 8, 8, 8, 8, 8, 8, 8, 8, 8, 8, 8, 8, 8, 8, 8, 8, 8, 8, 8, 8, 8, 8, 8, 8, 8, 8, 8, 8, 8, 8, 8, 8, 8, 8, 8, 8, 8, 8, 8, 8, 8, 8, 8, 8, 8, 8, 8, 8, 8, 8, 8, 8, 8, 8, 8, 8, 8, 8, 8, 8]⟩ : ByteArray) i = l ∧ IsLen i l ∧ l ≤ 8 := by
  obtain ⟨n, rfl⟩ := Int.eq_ofNat_of_zero_le (show 0 ≤ i by omega)
  have h := len8_dec ⟨n, by omega⟩ (by simp only; omega)
  simp only at h
  refine ⟨_, (Int.toNat_of_nonneg h.2.1).symm, ⟨h.1, ?_, ?_⟩, h.2.2.1⟩
  · have := h.2.2.2.1
    exact_mod_cast this
  · have := h.2.2.2.2
    exact_mod_cast this
set_option maxRecDepth 100000 in
theorem Len64_j {x n : Int} (h0 : 1 ≤ x) (h1 : x < 4294967296) (hn : 0 ≤ n ∧ n ≤ 32) : ∃ l : Nat, Ev (fun k => bits_Len64.j0 k x n) (n + l) ∧ IsLen x l ∧ l ≤ 32 := by
  by_cases h16 : x ≥ 65536
  · by_cases h8 : x / 65536 ≥ 256
    · have e : x / 65536 / 256 % 256 = x / 65536 / 256 := by omega
      obtain ⟨l, hl, hi, hb⟩ := len8_tab (i := x / 65536 / 256) (by omega) (by omega)
      refine ⟨24 + l, ?_, ?_, by omega⟩
      · refine Ev.step (fun k => by rw [bits_Len64.j0]) ?_
        simp only [if_pos h16, if_pos h8, e, if_pos (show 0 ≤ x / 65536 / 256 by omega), if_pos (show x / 65536 / 256 < 256 by omega), hl]
        rw [wrap_id (x := n + 16) (by omega) (by omega), wrap_id (x := n + 16 + 8) (by omega) (by omega), wrap_id (x := (l : Int)) (by omega) (by omega), wrap_id (by omega) (by omega)]
        exact ev_some (by omega)
      · have e2 : x / 2 ^ 24 = x / 65536 / 256 := by omega
        refine IsLen.up 24 ?_
        rw [e2]; exact hi
    · have e : x / 65536 % 256 = x / 65536 := by omega
      obtain ⟨l, hl, hi, hb⟩ := len8_tab (i := x / 65536) (by omega) (by omega)
      refine ⟨16 + l, ?_, ?_, by omega⟩
      · refine Ev.step (fun k => by rw [bits_Len64.j0]) ?_
        simp only [if_pos h16, if_neg h8, e, if_pos (show 0 ≤ x / 65536 by omega), if_pos (show x / 65536 < 256 by omega), hl]
        rw [wrap_id (x := n + 16) (by omega) (by omega), wrap_id (x := (l : Int)) (by omega) (by omega), wrap_id (by omega) (by omega)]
        exact ev_some (by omega)
      · refine IsLen.up 16 ?_
        exact hi
  · by_cases h8 : x ≥ 256
    · have e : x / 256 % 256 = x / 256 := by omega
      obtain ⟨l, hl, hi, hb⟩ := len8_tab (i := x / 256) (by omega) (by omega)
      refine ⟨8 + l, ?_, ?_, by omega⟩
      · refine Ev.step (fun k => by rw [bits_Len64.j0]) ?_
        simp only [if_neg h16, if_pos h8, e, if_pos (show 0 ≤ x / 256 by omega), if_pos (show x / 256 < 256 by omega), hl]
        rw [wrap_id (x := n + 8) (by omega) (by omega), wrap_id (x := (l : Int)) (by omega) (by omega), wrap_id (by omega) (by omega)]
        exact ev_some (by omega)
      · refine IsLen.up 8 ?_
        exact hi
    · have e : x % 256 = x := by omega
      obtain ⟨l, hl, hi, hb⟩ := len8_tab (i := x) (by omega) (by omega)
      refine ⟨l, ?_, hi, by omega⟩
      refine Ev.step (fun k => by rw [bits_Len64.j0]) ?_
      simp only [if_neg h16, if_neg h8, e, if_pos (show 0 ≤ x by omega), if_pos (show x < 256 by omega), hl]
      rw [wrap_id (x := (l : Int)) (by omega) (by omega), wrap_id (by omega) (by omega)]
      exact Ev.now _
theorem Len64_ev {x : Int} (h0 : 1 ≤ x) (h1 : x < 18446744073709551616) : ∃ l : Nat, Ev (fun k => bits_Len64.f k x) l ∧ IsLen x l ∧ l ≤ 64 := by
  unfold bits_Len64.f
  by_cases h32 : x ≥ 4294967296
  · obtain ⟨l, hl, hi, hb⟩ := Len64_j (x := x / 4294967296) (n := 32) (by omega) (by omega) (by omega)
    refine ⟨32 + l, ?_, IsLen.up 32 hi, by omega⟩
    simp only [if_pos h32]
    exact ev_eq hl (by omega)
  · obtain ⟨l, hl, hi, hb⟩ := Len64_j (x := x) (n := 0) (by omega) (by omega) (by omega)
    refine ⟨l, ?_, hi, by omega⟩
    simp only [if_neg h32]
    exact ev_eq hl (by omega)
theorem Mul64_eq {a b : Int} (a0 : 0 ≤ a) (a1 : a < 18446744073709551616) (b0 : 0 ≤ b) (b1 : b < 18446744073709551616) : bits_Mul64.f a b = some (a * b / 18446744073709551616, a * b % 18446744073709551616) := by
  unfold bits_Mul64.f
  rw [u64_mask32 a0 a1, u64_mask32 b0 b1]
  have hah : 0 ≤ a / 4294967296 ∧ a / 4294967296 ≤ 4294967295 := by omega
  have hal : 0 ≤ a % 4294967296 ∧ a % 4294967296 ≤ 4294967295 := by omega
  have hbh : 0 ≤ b / 4294967296 ∧ b / 4294967296 ≤ 4294967295 := by omega
  have hbl : 0 ≤ b % 4294967296 ∧ b % 4294967296 ≤ 4294967295 := by omega
  have hab : a * b = (a / 4294967296) * (b / 4294967296) * 18446744073709551616 + ((a / 4294967296) * (b % 4294967296) + (a % 4294967296) * (b / 4294967296)) * 4294967296 + (a % 4294967296) * (b % 4294967296) := by
    have ea : a = 4294967296 * (a / 4294967296) + a % 4294967296 := by omega
    have eb : b = 4294967296 * (b / 4294967296) + b % 4294967296 := by omega
    generalize a / 4294967296 = x1 at *
    generalize a % 4294967296 = x0 at *
    generalize b / 4294967296 = y1 at *
    generalize b % 4294967296 = y0 at *
    rw [ea, eb]
    simp only [Int.add_mul, Int.mul_add]
    have e1 : 4294967296 * x1 * (4294967296 * y1) = x1 * y1 * 18446744073709551616 := by
      rw [show (18446744073709551616 : Int) = 4294967296 * 4294967296 by decide]
      simp only [Int.mul_assoc, Int.mul_comm, Int.mul_left_comm]
    have e2 : 4294967296 * x1 * y0 = x1 * y0 * 4294967296 := by rw [Int.mul_assoc, Int.mul_comm]
    have e3 : x0 * (4294967296 * y1) = x0 * y1 * 4294967296 := by rw [Int.mul_left_comm, Int.mul_comm]
    rw [e1, e2, e3]
    omega
  have bound : ∀ {x y : Int}, 0 ≤ x ∧ x ≤ 4294967295 → 0 ≤ y ∧ y ≤ 4294967295 → 0 ≤ x * y ∧ x * y ≤ 18446744065119617025 := by
    intro x y hx hy
    have a := Int.mul_le_mul hx.2 hy.2 hy.1 (by omega)
    exact ⟨Int.mul_nonneg hx.1 hy.1, by omega⟩
  have p11 := bound hah hbh
  have p10 := bound hah hbl
  have p01 := bound hal hbh
  have p00 := bound hal hbl
  generalize (a / 4294967296) * (b / 4294967296) = q11 at *
  generalize (a / 4294967296) * (b % 4294967296) = q10 at *
  generalize (a % 4294967296) * (b / 4294967296) = q01 at *
  generalize (a % 4294967296) * (b % 4294967296) = q00 at *
  rw [hab]
  have w1 : IntKind.u64.wrap q11 = q11 := wrapu_id (by omega) (by omega)
  have w2 : IntKind.u64.wrap q10 = q10 := wrapu_id (by omega) (by omega)
  have w3 : IntKind.u64.wrap q01 = q01 := wrapu_id (by omega) (by omega)
  have w4 : IntKind.u64.wrap q00 = q00 := wrapu_id (by omega) (by omega)
  rw [w1, w2, w3, w4]
  have w5 : IntKind.u64.wrap (q10 + q00 / 4294967296) = q10 + q00 / 4294967296 := wrapu_id (by omega) (by omega)
  rw [w5, u64_mask32 (by omega) (by omega)]
  have w6 : IntKind.u64.wrap ((q10 + q00 / 4294967296) % 4294967296 + q01) = (q10 + q00 / 4294967296) % 4294967296 + q01 := wrapu_id (by omega) (by omega)
  have w7 : IntKind.u64.wrap (q11 + (q10 + q00 / 4294967296) / 4294967296) = q11 + (q10 + q00 / 4294967296) / 4294967296 := wrapu_id (by omega) (by omega)
  rw [w6, w7, wrapu, wrapu]
  congr 2
  omega
theorem Div64_l0 {Y s y1 y0 u v w : Int} {R : Int × Int} (hy : Y = y1 * 4294967296 + y0) (hy1 : 2147483648 ≤ y1) (hy1' : y1 < 4294967296) (hy0 : 0 ≤ y0) (hy0' : y0 < 4294967296) (huY : u < Y) (hv : 0 ≤ v) (hv' : v < 4294967296)
    (hend : Ev (fun k => bits_Div64.j2 k Y s y1 y0 u v w ((u * 4294967296 + v) / Y)) R) : ∀ (n : Nat) (q r : Int), (4294967296 - r).toNat ≤ n → Guess Y y1 u (u * 4294967296 + v) q r → Ev (fun k => bits_Div64.l0 k Y s y1 y0 u v w q r) R := by
  have hY : 0 < Y := by omega
  intro n
  induction n with
  | zero => intro q r hn hg; obtain ⟨_, _, h3, h4, _⟩ := hg; omega
  | succ n ih =>
    intro q r hn hg
    have hg' := hg
    obtain ⟨g1, g2, g3, g4, g5, g6⟩ := hg'
    have go : ∀ b : Bool, (b = true ↔ 4294967296 ≤ q ∨ 4294967296 * r + v < q * y0) → Ev (fun k => bits_Div64.j1 k Y s y1 y0 u v w q r b) R := by
      intro b hb
      refine Ev.step (fun k => by rw [bits_Div64.j1]) ?_
      by_cases hc : 4294967296 ≤ q ∨ 4294967296 * r + v < q * y0
      · obtain ⟨d1, d2, d3⟩ := guess_down hy hY huY hv hv' hg hc
        rw [wrapu_id (n := r + y1) (by omega) (by omega), wrapu_id (n := q - 1) (by omega) (by omega)]
        simp only [hb.2 hc, if_true]
        by_cases hr : r + y1 ≥ 4294967296
        · simp only [if_pos hr]
          have hstop : q - 1 = (u * 4294967296 + v) / Y := by
            have h3 : q - 1 ≤ (u * 4294967296 + v) / Y := by
              rw [Int.le_ediv_iff_mul_le hY, hy, Int.mul_add, ← Int.mul_assoc]
              have h4 : (q - 1) * y0 ≤ 4294967296 * 4294967295 := Int.mul_le_mul (by omega) (by omega) hy0 (by omega)
              omega
            omega
          rw [hstop]; exact hend
        · simp only [if_neg hr]
          exact ih (q - 1) (r + y1) (by omega) ⟨d2, d1, by omega, by omega, by omega, by omega⟩
      · have hbf : b = false := by cases b with
          | true => exact absurd (hb.1 rfl) hc
          | false => rfl
        simp only [hbf, if_neg Bool.false_ne_true]
        have := guess_stop hy hY hg (by omega)
        rw [this]; exact hend
    refine Ev.step (fun k => by rw [bits_Div64.l0]) ?_
    by_cases hq : q ≥ 4294967296
    · simp only [if_pos hq]
      exact go _ (by simp; omega)
    · simp only [if_neg hq]
      have hqy : 0 ≤ q * y0 ∧ q * y0 ≤ 4294967295 * 4294967295 := ⟨Int.mul_nonneg g5 hy0, Int.mul_le_mul (by omega) (by omega) hy0 (by omega)⟩
      rw [wrapu_id (n := q * y0) (by omega) (by omega), wrapu_id (n := 4294967296 * r) (by omega) (by omega), wrapu_id (n := 4294967296 * r + v) (by omega) (by omega)]
      exact go _ (by simp; omega)
theorem Div64_l1 {Y y1 y0 u v q1 : Int} {s : Nat} (hs : s ≤ 64) (hy : Y = y1 * 4294967296 + y0) (hy1 : 2147483648 ≤ y1) (hy1' : y1 < 4294967296) (hy0 : 0 ≤ y0) (hy0' : y0 < 4294967296) (hu : 0 ≤ u) (huY : u < Y) (hv : 0 ≤ v) (hv' : v < 4294967296)
    (hq1 : 0 ≤ q1) (hq1' : q1 < 4294967296) : ∀ (n : Nat) (q r : Int), (4294967296 - r).toNat ≤ n → Guess Y y1 u (u * 4294967296 + v) q r →
    Ev (fun k => bits_Div64.l1 k Y s y1 y0 v q1 r u q) (q1 * 4294967296 + (u * 4294967296 + v) / Y, (u * 4294967296 + v) % Y / 2 ^ s) := by
  have hY : 0 < Y := by omega
  have hlast : ∀ q : Int, q = (u * 4294967296 + v) / Y → IntKind.u64.wrap (IntKind.u64.wrap (q1 * 4294967296) + q) = q1 * 4294967296 + (u * 4294967296 + v) / Y ∧
      shr .u64 (IntKind.u64.wrap (IntKind.u64.wrap (IntKind.u64.wrap (u * 4294967296) + v) - IntKind.u64.wrap (q * Y))) s = (u * 4294967296 + v) % Y / 2 ^ s := by
    intro q hq
    have hqr := quot_rem (n := u * 4294967296 + v) hY
    have hr0 := Int.emod_nonneg (u * 4294967296 + v) (Int.ne_of_gt hY)
    have hr1 := Int.emod_lt_of_pos (u * 4294967296 + v) hY
    have hq0 : 0 ≤ (u * 4294967296 + v) / Y := Int.ediv_nonneg (by omega) (by omega)
    have hqlt : (u * 4294967296 + v) / Y < 4294967296 := by rw [Int.ediv_lt_iff_lt_mul hY]; omega
    rw [shr_u64 hs]
    constructor
    · rw [wrapu_id (n := q1 * 4294967296) (by omega) (by omega), wrapu_id (by omega) (by omega), hq]
    · congr 1
      rw [hq]
      simp only [wrapu]
      generalize (u * 4294967296 + v) / Y * Y = P at *
      generalize (u * 4294967296 + v) % Y = Q at *
      omega
  intro n
  induction n with
  | zero => intro q r hn hg; obtain ⟨_, _, h3, h4, _⟩ := hg; omega
  | succ n ih =>
    intro q r hn hg
    have hg' := hg
    obtain ⟨g1, g2, g3, g4, g5, g6⟩ := hg'
    have hs0 : (0 : Int) ≤ (s : Int) := Int.natCast_nonneg s
    have go : ∀ b : Bool, (b = true ↔ 4294967296 ≤ q ∨ 4294967296 * r + v < q * y0) → Ev (fun k => bits_Div64.j4 k Y s y1 y0 v q1 r u q b) (q1 * 4294967296 + (u * 4294967296 + v) / Y, (u * 4294967296 + v) % Y / 2 ^ s) := by
      intro b hb
      refine Ev.step (fun k => by rw [bits_Div64.j4]) ?_
      by_cases hc : 4294967296 ≤ q ∨ 4294967296 * r + v < q * y0
      · obtain ⟨d1, d2, d3⟩ := guess_down hy hY huY hv hv' hg hc
        rw [wrapu_id (n := r + y1) (by omega) (by omega), wrapu_id (n := q - 1) (by omega) (by omega)]
        simp only [hb.2 hc, if_true]
        by_cases hr : r + y1 ≥ 4294967296
        · simp only [if_pos hr, if_pos hs0]
          have hstop : q - 1 = (u * 4294967296 + v) / Y := by
            have h3 : q - 1 ≤ (u * 4294967296 + v) / Y := by
              rw [Int.le_ediv_iff_mul_le hY, hy, Int.mul_add, ← Int.mul_assoc]
              have h4 : (q - 1) * y0 ≤ 4294967296 * 4294967295 := Int.mul_le_mul (by omega) (by omega) hy0 (by omega)
              omega
            omega
          obtain ⟨l1, l2⟩ := hlast (q - 1) hstop
          rw [l1, l2]
          exact Ev.now _
        · simp only [if_neg hr]
          exact ih (q - 1) (r + y1) (by omega) ⟨d2, d1, by omega, by omega, by omega, by omega⟩
      · have hbf : b = false := by cases b with
          | true => exact absurd (hb.1 rfl) hc
          | false => rfl
        simp only [hbf, if_neg Bool.false_ne_true, if_pos hs0]
        have hstop := guess_stop hy hY hg (by omega)
        obtain ⟨l1, l2⟩ := hlast q hstop
        rw [l1, l2]
        exact Ev.now _
    refine Ev.step (fun k => by rw [bits_Div64.l1]) ?_
    by_cases hq : q ≥ 4294967296
    · simp only [if_pos hq]
      exact go _ (by simp; omega)
    · simp only [if_neg hq]
      have hqy : 0 ≤ q * y0 ∧ q * y0 ≤ 4294967295 * 4294967295 := ⟨Int.mul_nonneg g5 hy0, Int.mul_le_mul (by omega) (by omega) hy0 (by omega)⟩
      rw [wrapu_id (n := q * y0) (by omega) (by omega), wrapu_id (n := 4294967296 * r) (by omega) (by omega), wrapu_id (n := 4294967296 * r + v) (by omega) (by omega)]
      exact go _ (by simp; omega)
theorem Div64_ev {hi lo y : Int} (h0 : 0 ≤ hi) (h1 : hi < y) (hy : y < 18446744073709551616) (l0 : 0 ≤ lo) (l1 : lo < 18446744073709551616) :
    Ev (fun k => bits_Div64.f k hi lo y) ((hi * 18446744073709551616 + lo) / y, (hi * 18446744073709551616 + lo) % y) := by
  unfold bits_Div64.f
  simp only [if_neg (show ¬ y = 0 by omega), if_neg (show ¬ y ≤ hi by omega)]
  by_cases hz : hi = 0
  · simp only [if_pos hz]
    refine ev_some ?_
    rw [hz, Int.zero_mul, Int.zero_add, Int.tdiv_eq_ediv_of_nonneg l0, Int.tmod_eq_emod_of_nonneg l0, wrapu_id (Int.ediv_nonneg l0 (by omega))]
    have := Int.ediv_le_self y l0
    omega
  · obtain ⟨L, hL, ⟨i1, i2, i3⟩, hL64⟩ := Len64_ev (x := y) (by omega) hy
    have hlz : Ev (fun k => bits_LeadingZeros64.f k y) ((64 - L : Nat) : Int) := by
      unfold bits_LeadingZeros64.f
      rw [bnd hL]
      exact ev_some (by rw [wrap_id (by omega) (by omega)]; omega)
    simp only [if_neg hz]
    rw [bnd hlz]
    generalize hs : 64 - L = s
    have hs64 : s ≤ 63 := by omega
    have eL : L = 64 - s := by omega
    subst eL
    have w1 : IntKind.u64.wrap ((s : Nat) : Int) = s := wrapu_id (by omega) (by omega)
    have w2 : IntKind.u64.wrap (64 - (s : Int)) = ((64 - s : Nat) : Int) := by rw [wrapu_id (by omega) (by omega)]; omega
    simp only [w1, w2]
    rw [shl_u64 (x := y) (by omega), shl_u64 (x := hi) (by omega), shl_u64 (x := lo) (by omega), shr_u64 (x := lo) (s := 64 - s) (by omega)]
    have hS := two_pow_pos' s
    have hT := two_pow_pos' (64 - s)
    have hST : (2 : Int) ^ (64 - s) * 2 ^ s = 18446744073709551616 := by
      rw [← Int.pow_add]
      have : 64 - s + s = 64 := by omega
      rw [this]; decide
    have hST1 : (2 : Int) ^ (64 - s - 1) * 2 ^ s = 9223372036854775808 := by
      rw [← Int.pow_add]
      have : 64 - s - 1 + s = 63 := by omega
      rw [this]; decide
    have hY1 : y * 2 ^ s < 18446744073709551616 := by rw [← hST]; exact Int.mul_lt_mul_of_pos_right i3 hS
    have hY0 : 9223372036854775808 ≤ y * 2 ^ s := by rw [← hST1]; exact Int.mul_le_mul_of_nonneg_right i2 (Int.le_of_lt hS)
    have hH0 : 0 ≤ hi * 2 ^ s := Int.mul_nonneg h0 (Int.le_of_lt hS)
    have hH1 : hi * 2 ^ s + 2 ^ s ≤ y * 2 ^ s := by
      have := Int.mul_le_mul_of_nonneg_right (show hi + 1 ≤ y by omega) (Int.le_of_lt hS)
      rw [Int.add_mul, Int.one_mul] at this
      exact this
    have eY : y * 2 ^ s % 18446744073709551616 = y * 2 ^ s := Int.emod_eq_of_lt (by omega) hY1
    have eH : hi * 2 ^ s % 18446744073709551616 = hi * 2 ^ s := Int.emod_eq_of_lt hH0 (by omega)
    have hq0 : 0 ≤ lo / 2 ^ (64 - s) := Int.ediv_nonneg l0 (Int.le_of_lt hT)
    have hq1 : lo / 2 ^ (64 - s) < 2 ^ s := by
      rw [Int.ediv_lt_iff_lt_mul hT, Int.mul_comm, hST]; exact l1
    rw [eY, eH, or_u64 (s := s) (by omega) hH0 (Int.dvd_mul_left _ _) (by omega) hq0 hq1 (by omega)]
    rw [u64_mask32 (x := y * 2 ^ s) (by omega) hY1]
    have hlo := Int.emod_nonneg (lo * 2 ^ s) (show (18446744073709551616 : Int) ≠ 0 by decide)
    have hlo1 := Int.emod_lt_of_pos (lo * 2 ^ s) (show (0 : Int) < 18446744073709551616 by decide)
    rw [u64_mask32 (x := lo * 2 ^ s % 18446744073709551616) hlo hlo1]
    have hV : (hi * 18446744073709551616 + lo) * 2 ^ s = (hi * 2 ^ s + lo / 2 ^ (64 - s)) * 18446744073709551616 + lo * 2 ^ s % 18446744073709551616 := by
      have a1 : lo * 2 ^ s / 18446744073709551616 = lo / 2 ^ (64 - s) := by
        rw [← hST]; exact Int.mul_ediv_mul_of_pos_left lo _ hS
      have a2 := Int.mul_ediv_add_emod (lo * 2 ^ s) 18446744073709551616
      rw [a1] at a2
      rw [Int.add_mul, Int.add_mul, Int.mul_right_comm]
      omega
    have hw : lo * 2 ^ s % 18446744073709551616 = lo * 2 ^ s % 18446744073709551616 / 4294967296 * 4294967296 + lo * 2 ^ s % 18446744073709551616 % 4294967296 := by omega
    obtain ⟨t1, t2⟩ := two_digits hS (show 0 < y by omega) hV hw
    have v10 : 0 ≤ lo * 2 ^ s % 18446744073709551616 / 4294967296 ∧ lo * 2 ^ s % 18446744073709551616 / 4294967296 < 4294967296 := by omega
    have v00 : 0 ≤ lo * 2 ^ s % 18446744073709551616 % 4294967296 ∧ lo * 2 ^ s % 18446744073709551616 % 4294967296 < 4294967296 := by omega
    have u0 : 0 ≤ hi * 2 ^ s + lo / 2 ^ (64 - s) ∧ hi * 2 ^ s + lo / 2 ^ (64 - s) < y * 2 ^ s := by omega
    generalize lo * 2 ^ s % 18446744073709551616 / 4294967296 = v1 at *
    generalize lo * 2 ^ s % 18446744073709551616 % 4294967296 = v0 at *
    generalize hi * 2 ^ s + lo / 2 ^ (64 - s) = u at *
    generalize hYY : y * 2 ^ s = Y at *
    have hy1a : 2147483648 ≤ Y / 4294967296 ∧ Y / 4294967296 < 4294967296 := by omega
    have hy0a : 0 ≤ Y % 4294967296 ∧ Y % 4294967296 < 4294967296 := by omega
    have hYs : Y = Y / 4294967296 * 4294967296 + Y % 4294967296 := by omega
    have hY : 0 < Y := by omega
    simp only [if_pos (show (0 : Int) ≤ (s : Int) by omega), if_pos (show (0 : Int) ≤ ((64 - s : Nat) : Int) by omega), if_neg (show ¬ Y / 4294967296 = 0 by omega)]
    rw [Int.tdiv_eq_ediv_of_nonneg u0.1]
    have g1 := guess_first hYs hy1a.1 hy1a.2 hy0a.1 hy0a.2 u0.1 u0.2 v10.1 v10.2
    have hdm : 0 ≤ u / (Y / 4294967296) * (Y / 4294967296) ∧ u / (Y / 4294967296) * (Y / 4294967296) ≤ u := by
      obtain ⟨ga, _, gc, _, ge, _⟩ := g1
      exact ⟨Int.mul_nonneg ge (by omega), by omega⟩
    have gb := g1
    obtain ⟨_, _, gc, gd, ge, gf⟩ := gb
    rw [wrapu_id (n := u / (Y / 4294967296)) (by omega) (by omega), wrapu_id (n := u / (Y / 4294967296) * (Y / 4294967296)) (by omega) (by omega), wrapu_id (n := u - u / (Y / 4294967296) * (Y / 4294967296)) (by omega) (by omega)]
    refine Div64_l0 hYs hy1a.1 hy1a.2 hy0a.1 hy0a.2 u0.2 v10.1 v10.2 ?_ _ _ _ (Nat.le_refl _) g1
    refine Ev.step (fun k => by rw [bits_Div64.j2]) ?_
    simp only [if_neg (show ¬ Y / 4294967296 = 0 by omega)]
    have hqr := quot_rem (n := u * 4294967296 + v1) hY
    have hr0 := Int.emod_nonneg (u * 4294967296 + v1) (Int.ne_of_gt hY)
    have hr1 := Int.emod_lt_of_pos (u * 4294967296 + v1) hY
    have hd0 : 0 ≤ (u * 4294967296 + v1) / Y := Int.ediv_nonneg (by omega) (by omega)
    have hd1 : (u * 4294967296 + v1) / Y < 4294967296 := by rw [Int.ediv_lt_iff_lt_mul hY]; omega
    have e21 : IntKind.u64.wrap (IntKind.u64.wrap (IntKind.u64.wrap (u * 4294967296) + v1) - IntKind.u64.wrap ((u * 4294967296 + v1) / Y * Y)) = (u * 4294967296 + v1) % Y := by
      simp only [wrapu]
      generalize (u * 4294967296 + v1) / Y * Y = P at *
      generalize (u * 4294967296 + v1) % Y = Q at *
      omega
    rw [e21]
    generalize (u * 4294967296 + v1) % Y = u2 at *
    generalize (u * 4294967296 + v1) / Y = q1 at *
    rw [Int.tdiv_eq_ediv_of_nonneg hr0]
    have g2 := guess_first hYs hy1a.1 hy1a.2 hy0a.1 hy0a.2 hr0 hr1 v00.1 v00.2
    have gb2 := g2
    obtain ⟨_, _, gc2, gd2, ge2, gf2⟩ := gb2
    have hdm2 : 0 ≤ u2 / (Y / 4294967296) * (Y / 4294967296) ∧ u2 / (Y / 4294967296) * (Y / 4294967296) ≤ u2 := ⟨Int.mul_nonneg ge2 (by omega), by omega⟩
    rw [wrapu_id (n := u2 / (Y / 4294967296)) (by omega) (by omega), wrapu_id (n := u2 / (Y / 4294967296) * (Y / 4294967296)) (by omega) (by omega), wrapu_id (n := u2 - u2 / (Y / 4294967296) * (Y / 4294967296)) (by omega) (by omega)]
    have hfin := Div64_l1 (s := s) (by omega) hYs hy1a.1 hy1a.2 hy0a.1 hy0a.2 hr0 hr1 v00.1 v00.2 hd0 hd1 _ _ _ (Nat.le_refl _) g2
    rw [t1, t2] at hfin
    exact hfin
theorem pow_split {p : Int} {a b c : Nat} (h : a + b = c) : p ^ a * p ^ b = p ^ c := by rw [← Int.pow_add, h]
def PosX (p m d m' d' : Int) : Int := m' * p ^ d.toNat - m * p ^ d'.toNat
def PosV (p x : Int) : Int := if x = 0 then 1000 else vl p x
def PosE (p u m d u' m' d' : Int) : Int := mn (mn (u' - u) (d' - d)) (PosV p (PosX p m d m' d') - u - d)
theorem posX_lo {p m d m' d' : Int} (h0 : 0 ≤ d) (h1 : d ≤ d') : PosX p m d m' d' = p ^ d.toNat * (m' - m * p ^ (d' - d).toNat) := by
  unfold PosX
  rw [← pow_split (p := p) (show d.toNat + (d' - d).toNat = d'.toNat by omega), Int.mul_sub, Int.mul_comm m', ← Int.mul_assoc m, Int.mul_comm m, Int.mul_assoc (p ^ d.toNat)]
theorem posX_hi {p m d m' d' : Int} (h0 : 0 ≤ d') (h1 : d' ≤ d) : PosX p m d m' d' = p ^ d'.toNat * (m' * p ^ (d - d').toNat - m) := by
  unfold PosX
  rw [← pow_split (p := p) (show d'.toNat + (d - d').toNat = d.toNat by omega), Int.mul_sub, Int.mul_comm m, ← Int.mul_assoc m', Int.mul_comm m', Int.mul_assoc (p ^ d'.toNat)]
theorem pos_rest {p x y : Int} (h : IsP p) (hxy : p ^ 13 ∣ x - y) : (Int.tmod x (p ^ 13) = 0 → p ^ 13 ∣ y) ∧ (Int.tmod x (p ^ 13) ≠ 0 → y ≠ 0 ∧ vl p (Int.tmod x (p ^ 13)) = vl p y) := by
  have e0 : p ^ 13 ∣ x - Int.tmod x (p ^ 13) := ⟨Int.tdiv x (p ^ 13), by have := Int.mul_tdiv_add_tmod x (p ^ 13); omega⟩
  have e : p ^ 13 ∣ Int.tmod x (p ^ 13) - y := by
    have := Int.dvd_sub hxy e0
    rwa [show x - y - (x - Int.tmod x (p ^ 13)) = Int.tmod x (p ^ 13) - y by omega] at this
  constructor
  · intro z
    rw [z] at e
    have := Int.dvd_neg.2 e
    rwa [show -(0 - y) = y by omega] at this
  · intro z
    have hn : ¬ p ^ 13 ∣ Int.tmod x (p ^ 13) := by
      intro hd
      have h1 := tmod_natAbs_lt (a := x) (pow_ne' h 13)
      have h2 := Int.natAbs_dvd_natAbs.2 hd
      have h3 := Nat.le_of_dvd (Int.natAbs_pos.2 z) h2
      omega
    obtain ⟨_, h2, _, h4, _⟩ := vl_congr h e hn
    exact ⟨h4, h2⟩
theorem posV_mul {p y : Int} (h : IsP p) (n : Nat) : PosV p (p ^ n * y) = if y = 0 then 1000 else (n : Int) + vl p y := by
  unfold PosV
  by_cases hy : y = 0
  · rw [if_pos hy, if_pos (by rw [hy, Int.mul_zero])]
  · rw [if_neg hy, if_neg (fun hz => (Int.mul_eq_zero.1 hz).elim (pow_ne' h n) hy), vl_pow_mul h hy]
    omega
theorem posE_lo {p u m d u' m' d' x : Int} (hp : IsP p) (hr : (0 ≤ u ∧ u ≤ 12) ∧ (0 ≤ d ∧ d ≤ 12) ∧ (0 ≤ u' ∧ u' ≤ 12) ∧ 0 ≤ d' ∧ d' ≤ 12) (hd : d ≤ d')
    (hx : p ^ 13 ∣ x - (m' - m * p ^ (d' - d).toNat)) :
    (if Int.tmod x (p ^ 13) ≠ 0 then mn (mn (u' - u) (d' - d)) ((vl p (Int.tmod x (p ^ 13)) : Int) - u) else mn (u' - u) (d' - d)) = PosE p u m d u' m' d' := by
  obtain ⟨r0, r1⟩ := pos_rest hp hx
  unfold PosE
  rw [posX_lo hr.2.1.1 hd, posV_mul hp]
  have hdn : (d.toNat : Int) = d := by omega
  by_cases hz : Int.tmod x (p ^ 13) = 0
  · rw [if_neg (by simp [hz])]
    have hy := r0 hz
    by_cases hy0 : m' - m * p ^ (d' - d).toNat = 0
    · rw [if_pos hy0]; unfold mn; clear hx r0 r1 hy; (repeat' split) <;> omega
    · rw [if_neg hy0]
      have := (pow_dvd_iff hp hy0 13).1 hy
      unfold mn; clear hx r0 r1 hy; (repeat' split) <;> omega
  · obtain ⟨hy0, hv⟩ := r1 hz
    rw [if_pos hz, if_neg hy0, hv]
    congr 1; omega
theorem posE_hi {p u m d u' m' d' x : Int} (hp : IsP p) (hr : (0 ≤ u ∧ u ≤ 12) ∧ (0 ≤ d ∧ d ≤ 12) ∧ (0 ≤ u' ∧ u' ≤ 12) ∧ 0 ≤ d' ∧ d' ≤ 12) (hd : d' ≤ d)
    (hx : p ^ 13 ∣ x - (m' * p ^ (d - d').toNat - m)) :
    (if Int.tmod x (p ^ 13) ≠ 0 then mn (mn (u' - u) (d' - d)) ((vl p (Int.tmod x (p ^ 13)) : Int) - u - (d - d')) else mn (u' - u) (d' - d)) = PosE p u m d u' m' d' := by
  obtain ⟨r0, r1⟩ := pos_rest hp hx
  unfold PosE
  rw [posX_hi hr.2.2.2.1 hd, posV_mul hp]
  have hdn : (d'.toNat : Int) = d' := by omega
  by_cases hz : Int.tmod x (p ^ 13) = 0
  · rw [if_neg (by simp [hz])]
    have hy := r0 hz
    by_cases hy0 : m' * p ^ (d - d').toNat - m = 0
    · rw [if_pos hy0]; unfold mn; clear hx r0 r1 hy; (repeat' split) <;> omega
    · rw [if_neg hy0]
      have := (pow_dvd_iff hp hy0 13).1 hy
      unfold mn; clear hx r0 r1 hy; (repeat' split) <;> omega
  · obtain ⟨hy0, hv⟩ := r1 hz
    rw [if_pos hz, if_neg hy0, hv]
    congr 1; omega
theorem Sub64_eq {a b c : Int} (h0 : 0 ≤ a) (h1 : 0 ≤ b) (h2 : 0 ≤ c ∧ c ≤ 1) (h3 : b < 18446744073709551616) : bits_Sub64.f a b c = some ((a + 18446744073709551616 - b - c) % 18446744073709551616, if a < b + c then 1 else 0) := by
  unfold bits_Sub64.f
  rw [if_pos ⟨h0, h1, h2.1, h2.2, by omega⟩]
theorem diff_l {p : Int} (h : IsP p) : ∀ (n : Nat) (hi lo v : Int), 0 ≤ hi → hi < 18446744073709551616 → 0 ≤ lo → lo < 18446744073709551616 → hi * 18446744073709551616 + lo ≠ 0 →
    vl p (hi * 18446744073709551616 + lo) = n → 0 ≤ v → v + n ≤ 1000 → Ev (fun k => impl_difference.l0 k p hi lo v) (v + n) := by
  have hp7 := h.le_seven
  have hp2 := h.two_le
  intro n
  induction n with
  | zero =>
    intro hi lo v h0 h1 l0 l1 hz hv v0 v1
    refine Ev.step (fun k => by rw [impl_difference.l0]) ?_
    simp only [wrapu_id (show 0 ≤ p by omega) (show p < 18446744073709551616 by omega), if_neg (show ¬ p = 0 by omega)]
    have hr := Int.emod_nonneg hi (show p ≠ 0 by omega)
    have hr' := Int.emod_lt_of_pos hi h.pos
    rw [Int.tmod_eq_emod_of_nonneg h0, bnd (Div64_ev hr hr' (by omega) l0 l1)]
    have hne : (hi % p * 18446744073709551616 + lo) % p ≠ 0 := by
      intro hc
      have e1 : p ∣ hi % p * 18446744073709551616 + lo := Int.dvd_of_emod_eq_zero hc
      have e2 : p ∣ hi * 18446744073709551616 + lo := by
        have e3 : p ∣ (hi % p - hi) * 18446744073709551616 := Int.dvd_mul_of_dvd_left (dvd_emod_sub hi p)
        have := Int.dvd_sub e1 e3
        rwa [show hi % p * 18446744073709551616 + lo - (hi % p - hi) * 18446744073709551616 = hi * 18446744073709551616 + lo by omega] at this
      have := (dvd_iff_vl h hz).1 e2
      omega
    simp only [if_neg hne]
    exact ev_some (by omega)
  | succ n ih =>
    intro hi lo v h0 h1 l0 l1 hz hv v0 v1
    refine Ev.step (fun k => by rw [impl_difference.l0]) ?_
    simp only [wrapu_id (show 0 ≤ p by omega) (show p < 18446744073709551616 by omega), if_neg (show ¬ p = 0 by omega)]
    have hr := Int.emod_nonneg hi (show p ≠ 0 by omega)
    have hr' := Int.emod_lt_of_pos hi h.pos
    rw [Int.tmod_eq_emod_of_nonneg h0, bnd (Div64_ev hr hr' (by omega) l0 l1)]
    have e2 : p ∣ hi * 18446744073709551616 + lo := (dvd_iff_vl h hz).2 (by omega)
    have e1 : p ∣ hi % p * 18446744073709551616 + lo := by
      have e3 : p ∣ (hi % p - hi) * 18446744073709551616 := Int.dvd_mul_of_dvd_left (dvd_emod_sub hi p)
      have := Int.dvd_add e2 e3
      rwa [show hi * 18446744073709551616 + lo + (hi % p - hi) * 18446744073709551616 = hi % p * 18446744073709551616 + lo by omega] at this
    simp only [if_pos (Int.emod_eq_zero_of_dvd e1)]
    have hq0 : 0 ≤ hi / p := Int.ediv_nonneg h0 (by omega)
    have hq1 : hi / p ≤ hi := Int.ediv_le_self p h0
    have hq2 := Int.emod_def hi p
    obtain ⟨z, hz1⟩ := e1
    have hz2 : (hi % p * 18446744073709551616 + lo) / p = z := by rw [hz1, Int.mul_ediv_cancel_left _ (show p ≠ 0 by omega)]
    have hw : hi * 18446744073709551616 + lo = p * (hi / p * 18446744073709551616 + z) := by
      rw [Int.mul_add, ← hz1, ← Int.mul_assoc, hq2]
      omega
    have hz0 : 0 ≤ z := by
      rw [← hz2]; exact Int.ediv_nonneg (by omega) (by omega)
    have hz3 : z < 18446744073709551616 := by
      rw [← hz2]
      refine Int.ediv_lt_of_lt_mul h.pos ?_
      have : hi % p * 18446744073709551616 ≤ (p - 1) * 18446744073709551616 := Int.mul_le_mul_of_nonneg_right (by omega) (by omega)
      omega
    have hne : hi / p * 18446744073709551616 + z ≠ 0 := by
      intro hc; rw [hc, Int.mul_zero] at hw; exact hz hw
    have hv' : vl p (hi / p * 18446744073709551616 + z) = n := by
      rw [hw, vl_mul_p h hne] at hv
      omega
    rw [Int.tdiv_eq_ediv_of_nonneg h0, wrapu_id hq0 (by omega), hz2, wrap_id (by omega) (by omega)]
    exact ev_eq (ih (hi / p) z (v + 1) hq0 (by omega) hz0 hz3 hne hv' (by omega) (by omega)) (by omega)
theorem sub_words {ah al bh bl : Int} (h0 : 0 ≤ ah ∧ ah < 18446744073709551616) (h1 : 0 ≤ al ∧ al < 18446744073709551616) (h2 : 0 ≤ bh ∧ bh < 18446744073709551616) (h3 : 0 ≤ bl ∧ bl < 18446744073709551616)
    (hle : bh * 18446744073709551616 + bl ≤ ah * 18446744073709551616 + al) :
    (ah + 18446744073709551616 - bh - (if al < bl + 0 then 1 else 0)) % 18446744073709551616 * 18446744073709551616 + (al + 18446744073709551616 - bl - 0) % 18446744073709551616 = ah * 18446744073709551616 + al - (bh * 18446744073709551616 + bl) := by
  by_cases hc : al < bl + 0
  · rw [if_pos hc]
    rw [show (al + 18446744073709551616 - bl - 0) % 18446744073709551616 = al + 18446744073709551616 - bl by omega, show (ah + 18446744073709551616 - bh - 1) % 18446744073709551616 = ah - bh - 1 by omega]
    omega
  · rw [if_neg hc]
    rw [show (al + 18446744073709551616 - bl - 0) % 18446744073709551616 = al - bl by omega, show (ah + 18446744073709551616 - bh - 0) % 18446744073709551616 = ah - bh by omega]
    omega
theorem vl_128 {p n : Int} (h : IsP p) (hn : n ≠ 0) (h0 : 0 ≤ n) (h1 : n < 340282366920938463463374607431768211456) : vl p n < 128 := by
  refine vl_le_of_lt h hn ?_
  have h2 : 2 ^ 128 ≤ p.natAbs ^ 128 := Nat.pow_le_pow_left (by have := h.two_le; omega) 128
  have h3 : (2 : Nat) ^ 128 = 340282366920938463463374607431768211456 := by decide
  omega
theorem diff_j1 {p ah al bh bl : Int} (h : IsP p) (h0 : 0 ≤ ah ∧ ah < 18446744073709551616) (h1 : 0 ≤ al ∧ al < 18446744073709551616) (h2 : 0 ≤ bh ∧ bh < 18446744073709551616) (h3 : 0 ≤ bl ∧ bl < 18446744073709551616)
    (hle : bh * 18446744073709551616 + bl ≤ ah * 18446744073709551616 + al) :
    Ev (fun k => impl_difference.j1 k p ah al bh bl) (PosV p (ah * 18446744073709551616 + al - (bh * 18446744073709551616 + bl))) := by
  refine Ev.step (fun k => by rw [impl_difference.j1]) ?_
  have hb : 0 ≤ (if al < bl + 0 then (1 : Int) else 0) ∧ (if al < bl + 0 then (1 : Int) else 0) ≤ 1 := by split <;> omega
  simp only [Sub64_eq h1.1 h3.1 (show (0 : Int) ≤ 0 ∧ (0 : Int) ≤ 1 by omega) h3.2, Sub64_eq h0.1 h2.1 hb h2.2, Option.bind_some]
  have hw := sub_words h0 h1 h2 h3 hle
  rw [← hw]
  have x0 : 0 ≤ (ah + 18446744073709551616 - bh - (if al < bl + 0 then 1 else 0)) % 18446744073709551616 := Int.emod_nonneg _ (by omega)
  have x1 : (ah + 18446744073709551616 - bh - (if al < bl + 0 then 1 else 0)) % 18446744073709551616 < 18446744073709551616 := Int.emod_lt_of_pos _ (by omega)
  have y0 : 0 ≤ (al + 18446744073709551616 - bl - 0) % 18446744073709551616 := Int.emod_nonneg _ (by omega)
  have y1 : (al + 18446744073709551616 - bl - 0) % 18446744073709551616 < 18446744073709551616 := Int.emod_lt_of_pos _ (by omega)
  clear hw hle hb
  generalize (ah + 18446744073709551616 - bh - (if al < bl + 0 then 1 else 0)) % 18446744073709551616 = hi at *
  generalize (al + 18446744073709551616 - bl - 0) % 18446744073709551616 = lo at *
  have go : hi * 18446744073709551616 + lo ≠ 0 → Ev (fun k => impl_difference.j2 k p hi lo false) (PosV p (hi * 18446744073709551616 + lo)) := by
    intro hz
    refine Ev.step (fun k => by rw [impl_difference.j2]) ?_
    simp only [if_neg Bool.false_ne_true]
    unfold PosV
    rw [if_neg hz]
    have := vl_128 h hz (by omega) (by omega)
    exact ev_eq (diff_l h (vl p (hi * 18446744073709551616 + lo)) hi lo 0 x0 x1 y0 y1 hz rfl (by omega) (by omega)) (by omega)
  by_cases hz : hi = 0
  · simp only [if_pos hz]
    by_cases hl : lo = 0
    · subst hl
      refine Ev.step (fun k => by rw [impl_difference.j2]) ?_
      simp only [beq_self_eq_true, if_true]
      refine ev_some ?_
      rw [hz]; rfl
    · rw [show (lo == 0) = false from beq_eq_false_iff_ne.2 hl]
      exact go (by omega)
  · simp only [if_neg hz]
    exact go (by omega)
theorem posV_neg {p x : Int} (h : IsP p) : PosV p (-x) = PosV p x := by
  unfold PosV
  by_cases hx : x = 0
  · subst hx; rfl
  · rw [if_neg hx, if_neg (by omega), vl_neg h hx]
theorem difference_ev {p a b c d : Int} (h : IsP p) (ha : 0 ≤ a ∧ a ≤ 13841287201) (hb : 0 ≤ b ∧ b ≤ 13841287201) (hc : 0 ≤ c ∧ c ≤ 13841287201) (hd : 0 ≤ d ∧ d ≤ 13841287201) :
    Ev (fun k => impl_difference.f k p a b c d) (PosV p (a * b - c * d)) := by
  unfold impl_difference.f
  simp only [wrapu_id ha.1 (show a < 18446744073709551616 by omega), wrapu_id hb.1 (show b < 18446744073709551616 by omega), wrapu_id hc.1 (show c < 18446744073709551616 by omega), wrapu_id hd.1 (show d < 18446744073709551616 by omega)]
  rw [Mul64_eq ha.1 (by omega) hb.1 (by omega), Mul64_eq hc.1 (by omega) hd.1 (by omega)]
  simp only [Option.bind_some]
  have hx0 : 0 ≤ a * b := Int.mul_nonneg ha.1 hb.1
  have hx1 : a * b ≤ 13841287201 * 13841287201 := Int.mul_le_mul ha.2 hb.2 hb.1 (by omega)
  have hy0 : 0 ≤ c * d := Int.mul_nonneg hc.1 hd.1
  have hy1 : c * d ≤ 13841287201 * 13841287201 := Int.mul_le_mul hc.2 hd.2 hd.1 (by omega)
  generalize a * b = x at *
  generalize c * d = y at *
  have ex : x / 18446744073709551616 * 18446744073709551616 + x % 18446744073709551616 = x := by omega
  have ey : y / 18446744073709551616 * 18446744073709551616 + y % 18446744073709551616 = y := by omega
  have rx : (0 ≤ x / 18446744073709551616 ∧ x / 18446744073709551616 < 18446744073709551616) ∧ 0 ≤ x % 18446744073709551616 ∧ x % 18446744073709551616 < 18446744073709551616 := by omega
  have ry : (0 ≤ y / 18446744073709551616 ∧ y / 18446744073709551616 < 18446744073709551616) ∧ 0 ≤ y % 18446744073709551616 ∧ y % 18446744073709551616 < 18446744073709551616 := by omega
  have no : y ≤ x → Ev (fun k => impl_difference.j0 k p (x / 18446744073709551616) (x % 18446744073709551616) (y / 18446744073709551616) (y % 18446744073709551616) false) (PosV p (x - y)) := by
    intro hle
    refine Ev.step (fun k => by rw [impl_difference.j0]) ?_
    simp only [if_neg Bool.false_ne_true]
    exact ev_eq (diff_j1 h rx.1 rx.2 ry.1 ry.2 (by rw [ex, ey]; exact hle)) (by rw [ex, ey])
  have yes : x < y → Ev (fun k => impl_difference.j0 k p (x / 18446744073709551616) (x % 18446744073709551616) (y / 18446744073709551616) (y % 18446744073709551616) true) (PosV p (x - y)) := by
    intro hlt
    refine Ev.step (fun k => by rw [impl_difference.j0]) ?_
    simp only [if_true]
    refine ev_eq (diff_j1 h ry.1 ry.2 rx.1 rx.2 (by rw [ex, ey]; omega)) ?_
    rw [ex, ey, ← posV_neg h]
    congr 1; omega
  by_cases c1 : x / 18446744073709551616 < y / 18446744073709551616
  · simp only [if_pos c1]
    exact yes (by omega)
  · simp only [if_neg c1]
    by_cases c2 : x / 18446744073709551616 = y / 18446744073709551616
    · simp only [if_pos c2]
      by_cases c3 : x % 18446744073709551616 < y % 18446744073709551616
      · simp only [decide_eq_true c3]
        exact yes (by omega)
      · simp only [decide_eq_false c3]
        exact no (by omega)
    · simp only [if_neg c2]
      exact no (by omega)
def PosR (p u m d u' m' d' : Int) : List Int × Int := if IsP p ∧ Lat p u m d ∧ Lat p u' m' d' then ([PosE p u m d u' m' d', u' + d' - u - d - PosE p u m d u' m' d'], 0) else ([], 1)
theorem PosR_length (p u m d u' m' d' : Int) : (PosR p u m d u' m' d').1.length ≤ 2 := by unfold PosR; split <;> simp
theorem posV_range {p x : Int} (h : IsP p) (h0 : -340282366920938463463374607431768211455 ≤ x) (h1 : x ≤ 340282366920938463463374607431768211455) : 0 ≤ PosV p x ∧ PosV p x ≤ 1000 := by
  unfold PosV
  by_cases hx : x = 0
  · rw [if_pos hx]; omega
  · rw [if_neg hx]
    by_cases hs : 0 ≤ x
    · have := vl_128 h hx hs (by omega); omega
    · have := vl_128 h (n := -x) (by omega) (by omega) (by omega)
      rw [vl_neg h hx] at this; omega
theorem lat_pow {p u m d : Int} (hp : IsP p) (h : Lat p u m d) : (0 ≤ m ∧ m ≤ 13841287201) ∧ 0 ≤ p ^ d.toNat ∧ p ^ d.toNat ≤ 13841287201 := by
  have h1 := h.small hp
  obtain ⟨_, _, d0, d1, _⟩ := h
  have h2 := pow_pos' hp d.toNat
  have h3 := pow_le_seven hp (show d.toNat ≤ 12 by omega)
  have h4 : (7 : Int) ^ 12 = 13841287201 := by decide
  omega
theorem implLatticePosition_ev {p u m d u' m' d' : Int} : Ev (fun k => impl_LatticePosition.f k p u m d u' m' d') (PosR p u m d u' m' d') := by
  unfold impl_LatticePosition.f PosR
  rw [bnd areLattices2]
  by_cases hok : IsP p ∧ Lat p u m d ∧ Lat p u' m' d'
  · simp only [decide_eq_true hok, if_true, if_pos hok]
    obtain ⟨hp, h, h'⟩ := hok
    have l1 := lat_pow hp h
    have l2 := lat_pow hp h'
    obtain ⟨u0, u1, d0, d1, _⟩ := h
    obtain ⟨u0', u1', d0', d1', _⟩ := h'
    have q1 := pow_mono hp (Nat.zero_le d.toNat)
    rw [bnd (power_ev hp (show d ≤ 22 by omega)), bnd (power_ev hp (show d' ≤ 22 by omega)), bnd (difference_ev hp l2.1 l1.2 l1.1 l2.2)]
    have hv : 0 ≤ PosV p (m' * p ^ d.toNat - m * p ^ d'.toNat) ∧ PosV p (m' * p ^ d.toNat - m * p ^ d'.toNat) ≤ 1000 := by
      refine posV_range hp ?_ ?_
      · have a1 := Int.mul_nonneg l2.1.1 l1.2.1
        have a2 := Int.mul_le_mul l1.1.2 l2.2.2 l2.2.1 (by omega)
        omega
      · have a1 := Int.mul_nonneg l1.1.1 l2.2.1
        have a2 := Int.mul_le_mul l2.1.2 l1.2.2 l1.2.1 (by omega)
        omega
    refine ev_some ?_
    clear l1 l2 q1
    unfold PosE PosX
    generalize PosV p (m' * p ^ d.toNat - m * p ^ d'.toNat) = v at *
    rw [wrap_id (x := u' - u) (by omega) (by omega), wrap_id (x := d' - d) (by omega) (by omega), wrap_id (x := v - u) (by omega) (by omega), wrap_id (x := v - u - d) (by omega) (by omega), wrap_id (x := u' + d') (by omega) (by omega), wrap_id (x := u' + d' - u) (by omega) (by omega), wrap_id (x := u' + d' - u - d) (by omega) (by omega)]
    have e : -1000 ≤ mn (mn (u' - u) (d' - d)) (v - u - d) ∧ mn (mn (u' - u) (d' - d)) (v - u - d) ≤ 1000 := by unfold mn; constructor <;> ((repeat' split) <;> omega)
    rw [wrap_id (by omega) (by omega)]
  · simp only [decide_eq_false hok, if_neg Bool.false_ne_true, if_neg hok]
    exact ev_some rfl
theorem specLatticePosition_ev {p u m d u' m' d' : Int} : Ev (fun k => spec_LatticePosition.f k p u m d u' m' d') (PosR p u m d u' m' d') := by
  unfold spec_LatticePosition.f PosR
  rw [bnd l03Code2]
  by_cases hok : IsP p ∧ Lat p u m d ∧ Lat p u' m' d'
  · simp only [if_pos hok, if_true]
    obtain ⟨hp, h, h'⟩ := hok
    have l1 := lat_pow hp h
    have l2 := lat_pow hp h'
    obtain ⟨u0, u1, d0, d1, _⟩ := h
    obtain ⟨u0', u1', d0', d1', _⟩ := h'
    have m0 := pow_pos' hp 13
    have m1 : p ^ 13 ≤ 96889010407 := by
      have := pow_le_seven hp (show 13 ≤ 13 by omega)
      rwa [show (7 : Int) ^ 13 = 96889010407 from by decide] at this
    have hP := l01Power_ev hp (show (13 : Int) ≤ 22 by omega)
    rw [show (13 : Int).toNat = 13 from rfl] at hP
    rw [bnd hP]
    rw [wrap_id (x := d' - d) (by omega) (by omega), wrap_id (x := d - d') (by omega) (by omega), wrap_id (x := u' - u) (by omega) (by omega), wrap_id (x := u' + d') (by omega) (by omega), wrap_id (x := u' + d' - u) (by omega) (by omega), wrap_id (x := u' + d' - u - d) (by omega) (by omega)]
    have last : ∀ e, PosE p u m d u' m' d' = e → -1000 ≤ e → e ≤ 1000 → (([e, wrap64 (u' + d' - u - d - e)], 0) : List Int × Int) = ([PosE p u m d u' m' d', u' + d' - u - d - PosE p u m d u' m' d'], 0) := by
      intro e he h0 h1
      rw [he, wrap_id (by omega) (by omega)]
    by_cases hd : d' ≥ d
    · simp only [if_pos hd]
      rw [bnd (l01Power_ev hp (show d' - d ≤ 22 by omega)), l01MulMod_eq m0 (by omega)]
      simp only [Option.bind_some, if_neg (show ¬ p ^ 13 = 0 by omega)]
      have r0 := Int.emod_nonneg (m * p ^ (d' - d).toNat) (show p ^ 13 ≠ 0 by omega)
      have r1 := Int.emod_lt_of_pos (m * p ^ (d' - d).toNat) m0
      rw [wrap_id (x := m' - m * p ^ (d' - d).toNat % p ^ 13) (by omega) (by omega)]
      have key := posE_lo (u := u) (u' := u') (x := m' - m * p ^ (d' - d).toNat % p ^ 13) hp ⟨⟨u0, u1⟩, ⟨d0, d1⟩, ⟨u0', u1'⟩, d0', d1'⟩ hd (by
        have := Int.dvd_neg.2 (dvd_emod_sub (m * p ^ (d' - d).toNat) (p ^ 13))
        rwa [show -(m * p ^ (d' - d).toNat % p ^ 13 - m * p ^ (d' - d).toNat) = m' - m * p ^ (d' - d).toNat % p ^ 13 - (m' - m * p ^ (d' - d).toNat) by omega] at this)
      have hb := mod_between (n := m' - m * p ^ (d' - d).toNat % p ^ 13) m0
      generalize Int.tmod (m' - m * p ^ (d' - d).toNat % p ^ 13) (p ^ 13) = R at *
      by_cases hz : R = 0
      · simp only [if_pos hz]
        rw [if_neg (by simp [hz])] at key
        exact ev_some (last _ key.symm (by unfold mn; split <;> omega) (by unfold mn; split <;> omega))
      · simp only [if_neg hz]
        rw [if_pos hz] at key
        have hv := vl_le_62 hp hz (by omega) (by omega)
        rw [bnd (l01Val_ev hp hz (by omega) (by omega)), wrap_id (x := (vl p R : Int) - u) (by omega) (by omega)]
        exact ev_some (last _ key.symm (by unfold mn; (repeat' split) <;> omega) (by unfold mn; (repeat' split) <;> omega))
    · simp only [if_neg hd]
      rw [bnd (l01Power_ev hp (show d - d' ≤ 22 by omega)), l01MulMod_eq m0 (by omega)]
      simp only [Option.bind_some, if_neg (show ¬ p ^ 13 = 0 by omega)]
      have r0 := Int.emod_nonneg (m' * p ^ (d - d').toNat) (show p ^ 13 ≠ 0 by omega)
      have r1 := Int.emod_lt_of_pos (m' * p ^ (d - d').toNat) m0
      rw [wrap_id (x := m' * p ^ (d - d').toNat % p ^ 13 - m) (by omega) (by omega)]
      have key := posE_hi (u := u) (u' := u') (x := m' * p ^ (d - d').toNat % p ^ 13 - m) hp ⟨⟨u0, u1⟩, ⟨d0, d1⟩, ⟨u0', u1'⟩, d0', d1'⟩ (show d' ≤ d by omega) (by
        have := dvd_emod_sub (m' * p ^ (d - d').toNat) (p ^ 13)
        rwa [show m' * p ^ (d - d').toNat % p ^ 13 - m' * p ^ (d - d').toNat = m' * p ^ (d - d').toNat % p ^ 13 - m - (m' * p ^ (d - d').toNat - m) by omega] at this)
      have hb := mod_between (n := m' * p ^ (d - d').toNat % p ^ 13 - m) m0
      generalize Int.tmod (m' * p ^ (d - d').toNat % p ^ 13 - m) (p ^ 13) = R at *
      by_cases hz : R = 0
      · simp only [if_pos hz]
        rw [if_neg (by simp [hz])] at key
        exact ev_some (last _ key.symm (by unfold mn; split <;> omega) (by unfold mn; split <;> omega))
      · simp only [if_neg hz]
        rw [if_pos hz] at key
        have hv := vl_le_62 hp hz (by omega) (by omega)
        rw [bnd (l01Val_ev hp hz (by omega) (by omega)), wrap_id (x := (vl p R : Int) - u) (by omega) (by omega), wrap_id (x := (vl p R : Int) - u - (d - d')) (by omega) (by omega)]
        exact ev_some (last _ key.symm (by unfold mn; (repeat' split) <;> omega) (by unfold mn; (repeat' split) <;> omega))
  · simp only [if_neg hok, if_neg (show ¬ (1 : Int) = 0 by omega)]
    exact ev_some rfl
def FnExactLatticePositionPure : Prop := ∀ (a0 : Int) (a1_0 : Int) (a1_1 : Int) (a1_2 : Int) (a2_0 : Int) (a2_1 : Int) (a2_2 : Int), (Lit.int .i64 a0).wf = true → (Lit.int .i64 a1_0).wf = true → (Lit.int .i64 a1_1).wf = true → (Lit.int .i64 a1_2).wf = true → (Lit.int .i64 a2_0).wf = true → (Lit.int .i64 a2_1).wf = true → (Lit.int .i64 a2_2).wf = true → ∃ k, laws_FnExactLatticePosition.f k a0 a1_0 a1_1 a1_2 a2_0 a2_1 a2_2 = some true
theorem FnExactLatticePosition : FnExactLatticePositionPure := by
  intro a0 a1 a2 a3 a4 a5 a6 w0 w1 w2 w3 w4 w5 w6
  refine Ev.rounds (g := fun k => laws_FnExactLatticePosition.f k a0 a1 a2 a3 a4 a5 a6) ?_
  unfold laws_FnExactLatticePosition.f
  simp only [laws_toLattice.f, Option.bind_some]
  have hd := @implLatticePosition_ev a0 a1 a2 a3 a4 a5 a6
  have hl := PosR_length a0 a1 a2 a3 a4 a5 a6
  rw [bnd (@specLatticePosition_ev a0 a1 a2 a3 a4 a5 a6), bnd hd, bnd (eqInt_ev _ (by omega))]
  simp only [if_true, bne_self_eq_false]
  refine Ev.step (fun k => by rw [laws_FnExactLatticePosition.j0]) ?_
  simp only [if_neg Bool.false_ne_true, laws_toLattice.f, Option.bind_some]
  rw [bnd (markInt_ev (by omega) (by omega) (by omega))]
  rw [bnd (heldInt_ev (by omega) (by omega) (by omega))]
  simp only [if_neg (show ¬ ((1 : Int) + ((PosR a0 a1 a2 a3 a4 a5 a6).1.length : Int) < 0) by omega), if_true]
  rw [bnd hd, bnd (eqInt_ev _ (by omega))]
  simp only [if_true, bne_self_eq_false]
  refine Ev.step (fun k => by rw [laws_FnExactLatticePosition.j1]) ?_
  simp only [if_neg Bool.false_ne_true]
  rw [bnd (heldInt_ev (by omega) (by omega) (by omega))]
  simp only [if_neg (show ¬ ((1 : Int) + ((PosR a0 a1 a2 a3 a4 a5 a6).1.length : Int) < 0) by omega), if_true]
  exact Ev.now _

end Go.Proofs.Ytbjdnagmjponbaa.Pure

/- MeetOfLattices and the reference's MeetOfLattices answer the same for every prime and every two forms. No condition. -/
import Derived.Test.YtbjdnagmjponbaaPFnExactMeetOfLatticesx9
import Derived.Test.YtbjdnagmjponbaaMathFnExactMeetOfLattices
namespace Go.Proofs.Ytbjdnagmjponbaa.Pure
open Go.RowKit Go.Proofs.Ytbjdnagmjponbaa.PFnExactMeetOfLattices Go.Proofs.YtbjdnagmjponbaaW.PrintWords Go.Proofs.YtbjdnagmjponbaaW.PrintLast Go.Proofs.YtbjdnagmjponbaaW.PrintMore Go.Proofs.Ytbjdnagmjponbaa.Math
set_option linter.unusedVariables false
set_option linter.unusedSimpArgs false
theorem isPrime_eq (p : Int) : impl_isPrime.f p = some (decide (IsP p)) := by
  unfold impl_isPrime.f IsP
  by_cases h2 : p = 2
  · subst h2; rfl
  by_cases h3 : p = 3
  · subst h3; rfl
  by_cases h5 : p = 5
  · subst h5; rfl
  by_cases h7 : p = 7
  · subst h7; rfl
  simp [h2, h3, h5, h7]
theorem l01Prime_eq (p : Int) : spec_l01Prime.f p = some (decide (IsP p)) := by
  unfold spec_l01Prime.f IsP
  by_cases h2 : p = 2
  · subst h2; rfl
  by_cases h3 : p = 3
  · subst h3; rfl
  by_cases h5 : p = 5
  · subst h5; rfl
  by_cases h7 : p = 7
  · subst h7; rfl
  simp [h2, h3, h5, h7]
theorem l01In_eq (n a b : Int) : spec_l01In.f n a b = some (decide (a ≤ n ∧ n ≤ b)) := by
  unfold spec_l01In.f
  by_cases h : n ≥ a
  · rw [if_pos h]; simp [h]
  · rw [if_neg h]; simp; omega
theorem power_l {p : Int} (h : IsP p) (n : Nat) (hn : p ^ n ≤ 9223372036854775807) (hn' : n ≤ 1000) : ∀ d i, i + d = n → Ev (fun k => impl_power.l0 k p (p ^ i) n i) (p ^ n) := by
  intro d
  induction d with
  | zero =>
    intro i hi
    obtain rfl : i = n := by omega
    refine Ev.step (fun k => by rw [impl_power.l0]) ?_
    simp only [if_neg (Int.lt_irrefl _)]
    exact Ev.now _
  | succ d ih =>
    intro i hi
    refine Ev.step (fun k => by rw [impl_power.l0]) ?_
    have h1 : (i : Int) < n := by omega
    have h2 := pow_pos' h (i + 1)
    have h3 := pow_mono h (m := i + 1) (n := n) (by omega)
    have e1 : wrap64 (p ^ i * p) = p ^ (i + 1) := by rw [← show p ^ (i + 1) = p ^ i * p from Int.pow_succ p i]; exact wrap_id (by omega) (by omega)
    have e2 : wrap64 ((i : Int) + 1) = ((i + 1 : Nat) : Int) := by rw [wrap_id (by omega) (by omega)]; omega
    simp only [if_pos h1, e1, e2]
    exact ih (i + 1) (by omega)
theorem power_big {p : Int} (h : IsP p) {n : Nat} (hn : p ^ n ≤ 9223372036854775807) (hn' : n ≤ 1000) : Ev (fun k => impl_power.f k p n) (p ^ n) := by
  unfold impl_power.f
  have := power_l h n hn hn' n 0 (by omega)
  rw [Int.pow_zero] at this
  exact this
theorem power_ev {p : Int} (h : IsP p) {n : Int} (hn : n ≤ 22) : Ev (fun k => impl_power.f k p n) (p ^ n.toNat) := by
  by_cases h0 : 0 ≤ n
  · have := power_big h (n := n.toNat) (by have := pow_le_22 h (n := n.toNat) (by omega); omega) (by omega)
    rw [Int.toNat_of_nonneg h0] at this
    exact this
  · unfold impl_power.f
    refine Ev.step (fun k => by rw [impl_power.l0]) ?_
    have e : n.toNat = 0 := by omega
    simp only [if_neg (show ¬ (0 : Int) < n by omega), e, Int.pow_zero]
    exact Ev.now _
theorem l01Power_l {p : Int} (h : IsP p) : ∀ (d : Nat) (i : Nat), p ^ (i + d) ≤ 9223372036854775807 → i + d ≤ 1000 → Ev (fun k => spec_l01Power.l0 k p d (p ^ i)) (p ^ (i + d)) := by
  intro d
  induction d with
  | zero =>
    intro i _ _
    refine Ev.step (fun k => by rw [spec_l01Power.l0]) ?_
    simp only [if_neg (show ¬ ((0 : Nat) : Int) > 0 by omega)]
    exact Ev.now _
  | succ d ih =>
    intro i hi hi'
    refine Ev.step (fun k => by rw [spec_l01Power.l0]) ?_
    have h2 := pow_pos' h (i + 1)
    have h3 := pow_mono h (m := i + 1) (n := i + (d + 1)) (by omega)
    have e1 : wrap64 (p ^ i * p) = p ^ (i + 1) := by rw [← show p ^ (i + 1) = p ^ i * p from Int.pow_succ p i]; exact wrap_id (by omega) (by omega)
    have e2 : wrap64 (((d + 1 : Nat) : Int) - 1) = (d : Int) := by rw [wrap_id (by omega) (by omega)]; omega
    simp only [if_pos (show ((d + 1 : Nat) : Int) > 0 by omega), e1, e2]
    have e3 : i + (d + 1) = i + 1 + d := by omega
    rw [e3] at hi ⊢
    exact ih (i + 1) hi (by omega)
theorem l01Power_big {p : Int} (h : IsP p) {n : Nat} (hn : p ^ n ≤ 9223372036854775807) (hn' : n ≤ 1000) : Ev (fun k => spec_l01Power.f k p n) (p ^ n) := by
  unfold spec_l01Power.f
  have := l01Power_l h n 0 (by rw [Nat.zero_add]; exact hn) (by omega)
  rw [Int.pow_zero, Nat.zero_add] at this
  exact this
theorem l01Power_ev {p : Int} (h : IsP p) {n : Int} (hn : n ≤ 22) : Ev (fun k => spec_l01Power.f k p n) (p ^ n.toNat) := by
  by_cases h0 : 0 ≤ n
  · have := l01Power_big h (n := n.toNat) (by have := pow_le_22 h (n := n.toNat) (by omega); omega) (by omega)
    rw [Int.toNat_of_nonneg h0] at this
    exact this
  · unfold spec_l01Power.f
    refine Ev.step (fun k => by rw [spec_l01Power.l0]) ?_
    have e : n.toNat = 0 := by omega
    simp only [if_neg (show ¬ n > 0 by omega), e, Int.pow_zero]
    exact Ev.now _
theorem valuation_l {p : Int} (h : IsP p) : ∀ (v : Nat) (u : Int) (n : Int), ¬ p ∣ u → -9223372036854775807 ≤ p ^ v * u → p ^ v * u ≤ 9223372036854775807 → 0 ≤ n → n + v ≤ 1000 → Ev (fun k => impl_valuation.l0 k p (p ^ v * u) n) (n + v) := by
  intro v
  induction v with
  | zero =>
    intro u n hu h0 h1 hn hv
    refine Ev.step (fun k => by rw [impl_valuation.l0]) ?_
    have hne : ¬ Int.tmod (p ^ 0 * u) p = 0 := fun e => by
      rw [tmod_zero_iff, Int.pow_zero, Int.one_mul] at e; exact hu e
    simp only [if_neg h.ne, if_neg hne]
    exact ev_some (by simp)
  | succ v ih =>
    intro u n hu h0 h1 hn hv
    refine Ev.step (fun k => by rw [impl_valuation.l0]) ?_
    have e0 : p ^ (v + 1) * u = p * (p ^ v * u) := by rw [Int.pow_succ, Int.mul_comm (p ^ v) p, Int.mul_assoc]
    have hd : Int.tmod (p ^ (v + 1) * u) p = 0 := by rw [tmod_zero_iff, e0]; exact Int.dvd_mul_right _ _
    have e1 : Int.tdiv (p ^ (v + 1) * u) p = p ^ v * u := by rw [e0]; exact tdiv_mul_left h.ne
    have hb := tdiv_bounds (n := p ^ (v + 1) * u) (m := p)
    rw [e1] at hb
    have e2 : wrap64 (p ^ v * u) = p ^ v * u := wrap_id (by omega) (by omega)
    have e3 : wrap64 (n + 1) = n + 1 := wrap_id (by omega) (by omega)
    simp only [if_neg h.ne, if_pos hd, e1, e2, e3]
    exact ev_eq (ih u (n + 1) hu (by omega) (by omega) (by omega) (by omega)) (by omega)
theorem valuation_ev {p : Int} (h : IsP p) {x : Int} (hx : x ≠ 0) (h0 : -9223372036854775807 ≤ x) (h1 : x ≤ 9223372036854775807) : Ev (fun k => impl_valuation.f k p x) (vl p x) := by
  unfold impl_valuation.f
  simp only [if_neg hx]
  obtain ⟨u, hu, hnd, _⟩ := vl_split h x hx
  have hv := vl_le_62 h hx h0 h1
  have := valuation_l h (vl p x) u 0 hnd (by omega) (by omega) (by omega) (by omega)
  rw [← hu, Int.zero_add] at this
  exact this
theorem valuation_zero (k : Nat) (p : Int) : impl_valuation.f k p 0 = some 1000 := by unfold impl_valuation.f; rw [if_pos rfl]
theorem valuation_zero_ev (p : Int) : Ev (fun k => impl_valuation.f k p 0) 1000 := ⟨0, fun k _ => valuation_zero k p⟩
/-- Of every number: 1000 for 0. -/
def vx (p x : Int) : Int := if x = 0 then 1000 else vl p x
theorem valuation_any {p : Int} (h : IsP p) {x : Int} (h0 : -9223372036854775807 ≤ x) (h1 : x ≤ 9223372036854775807) : Ev (fun k => impl_valuation.f k p x) (vx p x) := by
  unfold vx
  by_cases hx : x = 0
  · subst hx; rw [if_pos rfl]; exact valuation_zero_ev p
  · rw [if_neg hx]; exact valuation_ev h hx h0 h1
theorem l01Val_l {p : Int} (h : IsP p) : ∀ (v : Nat) (u : Int) (n : Int), ¬ p ∣ u → -9223372036854775807 ≤ p ^ v * u → p ^ v * u ≤ 9223372036854775807 → 0 ≤ n → n + v ≤ 1000 → Ev (fun k => spec_l01Val.l0 k p (p ^ v * u) n) (n + v) := by
  intro v
  induction v with
  | zero =>
    intro u n hu h0 h1 hn hv
    refine Ev.step (fun k => by rw [spec_l01Val.l0]) ?_
    have hne : ¬ Int.tmod (p ^ 0 * u) p = 0 := fun e => by
      rw [tmod_zero_iff, Int.pow_zero, Int.one_mul] at e; exact hu e
    simp only [if_neg h.ne, if_neg hne]
    exact ev_some (by simp)
  | succ v ih =>
    intro u n hu h0 h1 hn hv
    refine Ev.step (fun k => by rw [spec_l01Val.l0]) ?_
    have e0 : p ^ (v + 1) * u = p * (p ^ v * u) := by rw [Int.pow_succ, Int.mul_comm (p ^ v) p, Int.mul_assoc]
    have hd : Int.tmod (p ^ (v + 1) * u) p = 0 := by rw [tmod_zero_iff, e0]; exact Int.dvd_mul_right _ _
    have e1 : Int.tdiv (p ^ (v + 1) * u) p = p ^ v * u := by rw [e0]; exact tdiv_mul_left h.ne
    have hb := tdiv_bounds (n := p ^ (v + 1) * u) (m := p)
    rw [e1] at hb
    have e2 : wrap64 (p ^ v * u) = p ^ v * u := wrap_id (by omega) (by omega)
    have e3 : wrap64 (n + 1) = n + 1 := wrap_id (by omega) (by omega)
    simp only [if_neg h.ne, if_pos hd, e1, e2, e3]
    exact ev_eq (ih u (n + 1) hu (by omega) (by omega) (by omega) (by omega)) (by omega)
theorem l01Val_ev {p : Int} (h : IsP p) {x : Int} (hx : x ≠ 0) (h0 : -9223372036854775807 ≤ x) (h1 : x ≤ 9223372036854775807) : Ev (fun k => spec_l01Val.f k p x) (vl p x) := by
  unfold spec_l01Val.f
  obtain ⟨u, hu, hnd, _⟩ := vl_split h x hx
  have hv := vl_le_62 h hx h0 h1
  have := l01Val_l h (vl p x) u 0 hnd (by omega) (by omega) (by omega) (by omega)
  rw [← hu, Int.zero_add] at this
  exact this
theorem mod_ev {n m : Int} (hm : 0 < m) (hm' : m ≤ 4611686018427387904) : impl_mod.f n m = some (n % m) := by
  unfold impl_mod.f
  have hb := mod_between (n := n) hm
  rw [if_neg (show ¬ m = 0 by omega), wrap_id (by omega) (by omega), mod_eq hm]
theorem IsLattice_ev {p u m d : Int} :
    Ev (fun k => impl_IsLattice.f k p u m d) (decide (IsP p ∧ Lat p u m d)) := by
  unfold impl_IsLattice.f
  simp only [isPrime_eq, Option.bind_some]
  by_cases hp : IsP p
  · simp only [hp, decide_true, if_true]
    by_cases h1 : u ≥ 0
    · simp only [if_pos h1]
      by_cases h2 : u ≤ 12
      · simp only [if_pos h2]
        by_cases h3 : d ≥ 0
        · simp only [if_pos h3]
          by_cases h4 : d ≤ 12
          · simp only [if_pos h4]
            by_cases h5 : m ≥ 0
            · simp only [if_pos h5]
              rw [bnd (power_ev hp (by omega))]
              exact ev_dec (by unfold Lat; simp; omega)
            · simp only [if_neg h5]
              exact ev_dec (by unfold Lat; simp; omega)
          · simp only [if_neg h4]
            exact ev_dec (by unfold Lat; simp; omega)
        · simp only [if_neg h3]
          exact ev_dec (by unfold Lat; simp; omega)
      · simp only [if_neg h2]
        exact ev_dec (by unfold Lat; simp; omega)
    · simp only [if_neg h1]
      exact ev_dec (by unfold Lat; simp; omega)
  · simp only [hp, decide_false, if_neg Bool.false_ne_true]
    exact ev_dec (by simp)
theorem l03Is_ev {p u m d : Int} :
    Ev (fun k => spec_l03Is.f k p u m d) (decide (IsP p ∧ Lat p u m d)) := by
  unfold spec_l03Is.f
  simp only [l01Prime_eq, l01In_eq, Option.bind_some]
  have bad : ∀ {c : Prop} [Decidable c], ¬ c → Ev (fun k => spec_l03Is.j0 k p true u m d) (decide c) := by
    intro c _ hc
    refine Ev.step (fun k => by rw [spec_l03Is.j0]) ?_
    simp only [if_true]
    exact ev_some (by simp [hc])
  by_cases hp : IsP p
  · simp only [hp, decide_true, if_true]
    by_cases h1 : 0 ≤ u ∧ u ≤ 12
    · simp only [h1, decide_true, if_true, and_self]
      by_cases h2 : 0 ≤ d ∧ d ≤ 12
      · simp only [h2, decide_true, and_self, Bool.not_true]
        refine Ev.step (fun k => by rw [spec_l03Is.j0]) ?_
        simp only [if_neg Bool.false_ne_true]
        rw [bnd (l01Power_ev hp (by omega))]
        have hpw := pow_pos' hp u.toNat
        have hpw2 := pow_le_22 hp (n := u.toNat) (by omega)
        have e2 : wrap64 (p ^ u.toNat - 1) = p ^ u.toNat - 1 := wrap_id (by omega) (by omega)
        simp only [l01In_eq, Option.bind_some, e2]
        exact ev_dec (by unfold Lat; simp; omega)
      · simp only [h2, decide_false, Bool.not_false]
        exact bad (by unfold Lat; omega)
    · simp only [h1, decide_false, if_neg Bool.false_ne_true]
      exact bad (by unfold Lat; omega)
  · simp only [hp, decide_false, if_neg Bool.false_ne_true]
    exact bad (by simp)
def LatOk (p : Int) (b : S36) : Prop := Lat p b.f0 b.f1 b.f2
instance (p : Int) (b : S36) : Decidable (LatOk p b) := by unfold LatOk; infer_instance
theorem rd_lat_at (pre : List S36) (b : S36) (ys : List S36) : rd_T36 (pre ++ b :: ys) (pre.length : Int) = b := by
  unfold rd_T36
  simp [List.getD_eq_getElem?_getD]
theorem l03Code_l {p : Int} (hp : IsP p) : ∀ (ys pre : List S36), (pre ++ ys).length ≤ 1000 → Ev (fun k => spec_l03Code.l0 k p (pre ++ ys) pre.length) (if ∀ b ∈ ys, LatOk p b then 0 else 1) := by
  intro ys
  induction ys with
  | nil =>
    intro pre _
    refine Ev.step (fun k => by rw [spec_l03Code.l0]) ?_
    simp only [List.append_nil, if_neg (Int.lt_irrefl _)]
    exact ev_some (by simp)
  | cons b ys ih =>
    intro pre hl
    refine Ev.step (fun k => by rw [spec_l03Code.l0]) ?_
    have hl' : (pre ++ b :: ys).length = pre.length + (ys.length + 1) := by simp
    have h1 : (pre.length : Int) < ((pre ++ b :: ys).length : Int) := by omega
    simp only [if_pos h1, if_pos (show (0 : Int) ≤ (pre.length : Int) by omega), rd_lat_at]
    rw [bnd l03Is_ev]
    by_cases hB : Lat p b.f0 b.f1 b.f2
    · simp only [hp, hB, and_self, decide_true, if_true]
      have e : wrap64 ((pre.length : Int) + 1) = ((pre ++ [b]).length : Int) := by rw [wrap_id (by omega) (by omega)]; simp
      have := ih (pre ++ [b]) (by simpa using hl)
      rw [e]
      simp only [List.append_assoc, List.singleton_append] at this
      refine ev_eq this ?_
      have : (∀ c ∈ b :: ys, LatOk p c) ↔ (∀ c ∈ ys, LatOk p c) := by simp [LatOk, hB]
      simp only [this]
    · simp only [hp, hB, and_false, decide_false, if_neg Bool.false_ne_true]
      refine ev_some ?_
      rw [if_neg]
      intro hall
      exact hB (hall b (by simp))
theorem l03Code_ev {p : Int} {ys : List S36} (hl : ys.length ≤ 1000) : Ev (fun k => spec_l03Code.f k p ys) (if IsP p ∧ ∀ b ∈ ys, LatOk p b then 0 else 1) := by
  unfold spec_l03Code.f
  simp only [l01Prime_eq, Option.bind_some]
  by_cases hp : IsP p
  · simp only [hp, decide_true, if_true, true_and]
    exact l03Code_l hp ys [] (by simpa using hl)
  · simp only [hp, decide_false, if_neg Bool.false_ne_true, false_and, if_false]
    exact Ev.now _
theorem l03Code2 {p l t d l' t' d' : Int} : Ev (fun k => spec_l03Code.f k p [⟨l, t, d⟩, ⟨l', t', d'⟩]) (if IsP p ∧ Lat p l t d ∧ Lat p l' t' d' then 0 else 1) := by
  refine ev_eq (l03Code_ev (by simp)) ?_
  simp [LatOk]
theorem areLattices_l {p : Int} : ∀ (ys pre : List S36), (pre ++ ys).length ≤ 1000 → Ev (fun k => impl_areLattices.l0 k p (pre ++ ys) ((pre ++ ys).length : Int) pre.length) (decide (∀ b ∈ ys, IsP p ∧ LatOk p b)) := by
  intro ys
  induction ys with
  | nil =>
    intro pre _
    refine Ev.step (fun k => by rw [impl_areLattices.l0]) ?_
    simp only [List.append_nil, if_neg (Int.lt_irrefl _)]
    exact ev_some (by simp)
  | cons b ys ih =>
    intro pre hl
    refine Ev.step (fun k => by rw [impl_areLattices.l0]) ?_
    have hl' : (pre ++ b :: ys).length = pre.length + (ys.length + 1) := by simp
    have h1 : (pre.length : Int) < ((pre ++ b :: ys).length : Int) := by omega
    simp only [if_pos h1, if_pos (show (0 : Int) ≤ (pre.length : Int) by omega), rd_lat_at]
    rw [bnd IsLattice_ev]
    by_cases hB : IsP p ∧ Lat p b.f0 b.f1 b.f2
    · simp only [hB, and_self, decide_true, if_true]
      have e : wrap64 ((pre.length : Int) + 1) = ((pre ++ [b]).length : Int) := by rw [wrap_id (by omega) (by omega)]; simp
      have := ih (pre ++ [b]) (by simpa using hl)
      rw [e]
      simp only [List.append_assoc, List.singleton_append] at this
      refine ev_eq this ?_
      rw [decide_eq_decide]
      simp [LatOk, hB]
    · simp only [hB, decide_false, if_neg Bool.false_ne_true]
      refine ev_some ?_
      symm
      rw [decide_eq_false_iff_not]
      intro hall
      exact hB (hall b (by simp))
theorem areLattices2 {p l t d l' t' d' : Int} : Ev (fun k => impl_areLattices.f k p [⟨l, t, d⟩, ⟨l', t', d'⟩]) (decide (IsP p ∧ Lat p l t d ∧ Lat p l' t' d')) := by
  unfold impl_areLattices.f
  refine ev_eq (areLattices_l _ [] (by simp)) ?_
  by_cases hp : IsP p
  · simp [LatOk, hp]
  · rw [decide_eq_false (fun h => hp (h _ (List.mem_cons_self ..)).1), decide_eq_false (fun h => hp h.1)]
theorem l03Vals_ev {p x : Int} (hp : IsP p) (h0 : -9223372036854775807 ≤ x) (h1 : x ≤ 9223372036854775807) : Ev (fun k => spec_l03Vals.f k p x) (if x = 0 then 100 else (vl p x : Int)) := by
  unfold spec_l03Vals.f
  by_cases hx : x = 0
  · simp only [if_pos hx]; exact Ev.now _
  · simp only [if_neg hx]
    rw [bnd (l01Val_ev hp hx h0 h1)]
    exact Ev.now _
theorem l01MulMod_eq {a b m : Int} (h0 : 0 < m) (h1 : m ≤ 100000000000) : spec_l01MulMod.f a b m = some (a * b % m) := by
  unfold spec_l01MulMod.f
  have ha := mod_between (n := a) h0
  have hb := mod_between (n := b) h0
  have ea : wrap64 (Int.tmod a m + m) = Int.tmod a m + m := wrap_id (by omega) (by omega)
  have eb : wrap64 (Int.tmod b m + m) = Int.tmod b m + m := wrap_id (by omega) (by omega)
  have a0 := Int.emod_nonneg a (Int.ne_of_gt h0)
  have a1 := Int.emod_lt_of_pos a h0
  have b0 := Int.emod_nonneg b (Int.ne_of_gt h0)
  have b1 := Int.emod_lt_of_pos b h0
  rw [if_neg (Int.ne_of_gt h0)]
  simp only [ea, eb, mod_eq h0]
  rw [Int.tmod_eq_emod_of_nonneg b0, Int.tdiv_eq_ediv_of_nonneg b0]
  have hq0 : 0 ≤ b % m / 1000000 := by omega
  have hq1 : b % m / 1000000 ≤ 100000 := by omega
  have hr0 : 0 ≤ b % m % 1000000 := by omega
  have hr1 : b % m % 1000000 ≤ 1000000 := by omega
  have eq : wrap64 (b % m / 1000000) = b % m / 1000000 := wrap_id (by omega) (by omega)
  rw [eq]
  have p1 : 0 ≤ a % m * (b % m / 1000000) := Int.mul_nonneg a0 hq0
  have p2 : a % m * (b % m / 1000000) ≤ 100000000000 * 100000 := Int.mul_le_mul (by omega) hq1 hq0 (by omega)
  have p3 : 0 ≤ a % m * (b % m % 1000000) := Int.mul_nonneg a0 hr0
  have p4 : a % m * (b % m % 1000000) ≤ 100000000000 * 1000000 := Int.mul_le_mul (by omega) hr1 hr0 (by omega)
  rw [wrap_id (x := a % m * (b % m / 1000000)) (by omega) (by omega), wrap_id (x := a % m * (b % m % 1000000)) (by omega) (by omega)]
  rw [Int.tmod_eq_emod_of_nonneg p1, Int.tmod_eq_emod_of_nonneg p3]
  have c0 := Int.emod_nonneg (a % m * (b % m / 1000000)) (Int.ne_of_gt h0)
  have c1 := Int.emod_lt_of_pos (a % m * (b % m / 1000000)) h0
  have d0 := Int.emod_nonneg (a % m * (b % m % 1000000)) (Int.ne_of_gt h0)
  have d1 := Int.emod_lt_of_pos (a % m * (b % m % 1000000)) h0
  rw [wrap_id (x := a % m * (b % m / 1000000) % m * 1000000) (by omega) (by omega)]
  have e0 : 0 ≤ a % m * (b % m / 1000000) % m * 1000000 := by omega
  rw [Int.tmod_eq_emod_of_nonneg e0]
  have f0 := Int.emod_nonneg (a % m * (b % m / 1000000) % m * 1000000) (Int.ne_of_gt h0)
  have f1 := Int.emod_lt_of_pos (a % m * (b % m / 1000000) % m * 1000000) h0
  rw [wrap_id (by omega) (by omega), Int.tmod_eq_emod_of_nonneg (by omega), mulmod_eq]
set_option maxRecDepth 100000 in
theorem len8_dec : ∀ n : Fin 256, 1 ≤ n.val → 1 ≤ (bt (⟨#[0, 1, 2, 2, 3, 3, 3, 3, 4, 4, 4, 4, 4, 4, 4, 4, 5, 5, 5, 5, 5, 5, 5, 5, 5, 5, 5, 5, 5, 5, 5, 5, 6, 6, 6, 6, 6, 6, 6, 6, 6, 6, 6, 6, 6, 6, 6, 6, 6, 6, 6, 6, 6, 6, 6, 6, 6, 6, 6, 6, 6, 6, 6, 6, 7, 7, 7, 7, 7, 7, 7, 7, 7, 7, 7, 7, 7, 7, 7, 7, 7, 7, 7, 7, 7, 7, 7, 7, 7, 7, 7, 7, 7, 7, 7, 7, 7, 7, 7, 7, 7, 7, 7, 7, 7, 7, 7, 7, 7, 7, 7, 7, 7, 7, 7, 7, 7, 7, 7, 7, 7, 7, 7, 7, 7, 7, 7, 7, 8, 8, 8, 8, 8, 8, 8, 8, 8, 8, 8, 8, 8, 8, 8, 8, 8, 8, 8, 8, 8, 8, 8, 8, 8, 8, 8, 8, 8, 8, 8, 8, 8, 8, 8, 8, 8, 8, 8, 8, 8, 8, 8, 8, 8, 8, 8, 8, 8, 8, 8, 8, 8, 8, 8, 8, 8, 8, 8, 8, 8, 8, 8, 8, 8, 8, 8, 8, 8, 8, 8, 8, 8, 8, 8, 8, 8, 8, 8, 8, 8, 8, 8, 8, 8, 8, 8, 8, 8, 8, 8, 8, 8, 8, 8, 8, 8, 8, 8, 8, 8, 8, 8, 8, 8, 8, 8, 8, 8, 8, 8, 8, 8, 8, 8, 8, 8, 8, 8, 8, 8, 8, 8, 8, 8, 8, 8, 8]⟩ : ByteArray) (n.val : Int)).toNat ∧ 0 ≤ bt (⟨#[0, 1, 2, 2, 3, 3, 3, 3, 4, 4, 4, 4, 4, 4, 4, 4, 5, 5, 5, 5, 5, 5, 5, 5, 5, 5, 5, 5, 5, 5, 5, 5, 6, 6, 6, 6, 6, 6, 6, 6, 6, 6, 6, 6, 6, 6, 6, 6, 6, 6, 6, 6, 6, 6, 6, 6, 6, 6, 6, 6, 6, 6, 6, 6, 7, 7, 7, 7, 7, 7, 7, 7, 7, 7, 7, 7, 7, 7, 7, 7, 7, 7, 7, 7, 7, 7, 7, 7, 7, 7, 7, 7, 7, 7, 7, 7, 7, 7, 7, 7, 7, 7, 7, 7, 7, 7, 7, 7, 7, 7, 7, 7, 7, 7, 7, 7, 7, 7, 7, 7, 7, 7, 7, 7, 7, 7, 7, 7, 8, 8, 8, 8, 8, 8, 8, 8, 8, 8, 8, 8, 8, 8, 8, 8, 8, 8, 8, 8, 8, 8, 8, 8, 8, 8, 8, 8, 8, 8, 8, 8, 8, 8, 8, 8, 8, 8, 8, 8, 8, 8, 8, 8, 8, 8, 8, 8, 8, 8, 8, 8, 8, 8, 8, 8, 8, 8, 8, 8, 8, 8, 8, 8, 8, 8, 8, 8, 8, 8, 8, 8, 8, 8, 8, 8, 8, 8, 8, 8, 8, 8, 8, 8, 8, 8, 8, 8, 8, 8, 8, 8, 8, 8, 8, 8, 8, 8, 8, 8, 8, 8, 8, 8, 8, 8, 8, 8, 8, 8, 8, 8, 8, 8, 8, 8, 8, 8, 8, 8, 8, 8, 8, 8, 8, 8, 8, 8]⟩ : ByteArray) (n.val : Int) ∧ (bt (⟨#[0, 1, 2, 2, 3, 3, 3, 3, 4, 4, 4, 4, 4, 4, 4, 4, 5, 5, 5, 5, 5, 5, 5, 5, 5, 5, 5, 5, 5, 5, 5, 5, 6, 6, 6, 6, 6, 6, 6, 6, 6, 6, 6, 6, 6, 6, 6, 6, 6, 6, 6, 6, 6, 6, 6, 6, 6, 6, 6, 6, 6, 6, 6, 6, 7, 7, 7, 7, 7, 7, 7, 7, 7, 7, 7, 7, 7, 7, 7, 7, 7, 7, 7, 7, 7, 7, 7, 7, 7, 7, 7, 7, 7, 7, 7, 7, 7, 7, 7, 7, 7, 7, 7, 7, 7, 7, 7, 7, 7, 7, 7, 7, 7, 7, 7, 7, 7, 7, 7, 7, 7, 7, 7, 7, 7, 7, 7, 7, 8, 8, 8, 8, 8, 8, 8, 8, 8, 8, 8, 8, 8, 8, 8, 8, 8, 8, 8, 8, 8, 8, 8, 8, 8, 8, 8, 8, 8, 8, 8, 8, 8, 8, 8, 8, 8, 8, 8, 8, 8, 8, 8, 8, 8, 8, 8, 8, 8, 8, 8, 8, 8, 8, 8, 8, 8, 8, 8, 8, 8, 8, 8, 8, 8, 8, 8, 8, 8, 8, 8, 8, 8, 8, 8, 8, 8, 8, 8, 8, 8, 8, 8, 8, 8, 8, 8, 8, 8, 8, 8, 8, 8, 8, 8, 8, 8, 8, 8, 8, 8, 8, 8, 8, 8, 8, 8, 8, 8, 8, 8, 8, 8, 8, 8, 8, 8, 8, 8, 8, 8, 8, 8, 8, 8, 8, 8, 8]⟩ : ByteArray) (n.val : Int)).toNat ≤ 8 ∧
    2 ^ ((bt (⟨#[0, 1, 2, 2, 3, 3, 3, 3, 4, 4, 4, 4, 4, 4, 4, 4, 5, 5, 5, 5, 5, 5, 5, 5, 5, 5, 5, 5, 5, 5, 5, 5, 6, 6, 6, 6, 6, 6, 6, 6, 6, 6, 6, 6, 6, 6, 6, 6, 6, 6, 6, 6, 6, 6, 6, 6, 6, 6, 6, 6, 6, 6, 6, 6, 7, 7, 7, 7, 7, 7, 7, 7, 7, 7, 7, 7, 7, 7, 7, 7, 7, 7, 7, 7, 7, 7, 7, 7, 7, 7, 7, 7, 7, 7, 7, 7, 7, 7, 7, 7, 7, 7, 7, 7, 7, 7, 7, 7, 7, 7, 7, 7, 7, 7, 7, 7, 7, 7, 7, 7, 7, 7, 7, 7, 7, 7, 7, 7, 8, 8, 8, 8, 8, 8, 8, 8, 8, 8, 8, 8, 8, 8, 8, 8, 8, 8, 8, 8, 8, 8, 8, 8, 8, 8, 8, 8, 8, 8, 8, 8, 8, 8, 8, 8, 8, 8, 8, 8, 8, 8, 8, 8, 8, 8, 8, 8, 8, 8, 8, 8, 8, 8, 8, 8, 8, 8, 8, 8, 8, 8, 8, 8, 8, 8, 8, 8, 8, 8, 8, 8, 8, 8, 8, 8, 8, 8, 8, 8, 8, 8, 8, 8, 8, 8, 8, 8, 8, 8, 8, 8, 8, 8, 8, 8, 8, 8, 8, 8, 8, 8, 8, 8, 8, 8, 8, 8, 8, 8, 8, 8, 8, 8, 8, 8, 8, 8, 8, 8, 8, 8, 8, 8, 8, 8, 8, 8]⟩ : ByteArray) (n.val : Int)).toNat - 1) ≤ n.val ∧ n.val < 2 ^ (bt (⟨#[0, 1, 2, 2, 3, 3, 3, 3, 4, 4, 4, 4, 4, 4, 4, 4, 5, 5, 5, 5, 5, 5, 5, 5, 5, 5, 5, 5, 5, 5, 5, 5, 6, 6, 6, 6, 6, 6, 6, 6, 6, 6, 6, 6, 6, 6, 6, 6, 6, 6, 6, 6, 6, 6, 6, 6, 6, 6, 6, 6, 6, 6, 6, 6, 7, 7, 7, 7, 7, 7, 7, 7, 7, 7, 7, 7, 7, 7, 7, 7, 7, 7, 7, 7, 7, 7, 7, 7, 7, 7, 7, 7, 7, 7, 7, 7, 7, 7, 7, 7, 7, 7, 7, 7, 7, 7, 7, 7, 7, 7, 7, 7, 7, 7, 7, 7, 7, 7, 7, 7, 7, 7, 7, 7, 7, 7, 7, 7, 8, 8, 8, 8, 8, 8, 8, 8, 8, 8, 8, 8, 8, 8, 8, 8, 8, 8, 8, 8, 8, 8, 8, 8, 8, 8, 8, 8, 8, 8, 8, 8, 8, 8, 8, 8, 8, 8, 8, 8, 8, 8, 8, 8, 8, 8, 8, 8, 8, 8, 8, 8, 8, 8, 8, 8, 8, 8, 8, 8, 8, 8, 8, 8, 8, 8, 8, 8, 8, 8, 8, 8, 8, 8, 8, 8, 8, 8, 8, 8, 8, 8, 8, 8, 8, 8, 8, 8, 8, 8, 8, 8, 8, 8, 8, 8, 8, 8, 8, 8, 8, 8, 8, 8, 8, 8, 8, 8, 8, 8, 8, 8, 8, 8, 8, 8, 8, 8, 8, 8, 8, 8, 8, 8, 8, 8, 8, 8]⟩ : ByteArray) (n.val : Int)).toNat := by decide +kernel
set_option maxRecDepth 100000 in
theorem len8_tab {i : Int} (h0 : 1 ≤ i) (h1 : i < 256) : ∃ l : Nat, bt (⟨#[0, 1, 2, 2, 3, 3, 3, 3, 4, 4, 4, 4, 4, 4, 4, 4, 5, 5, 5, 5, 5, 5, 5, 5, 5, 5, 5, 5, 5, 5, 5, 5, 6, 6, 6, 6, 6, 6, 6, 6, 6, 6, 6, 6, 6, 6, 6, 6, 6, 6, 6, 6, 6, 6, 6, 6, 6, 6, 6, 6, 6, 6, 6, 6, 7, 7, 7, 7, 7, 7, 7, 7, 7, 7, 7, 7, 7, 7, 7, 7, 7, 7, 7, 7, 7, 7, 7, 7, 7, 7, 7, 7, 7, 7, 7, 7, 7, 7, 7, 7, 7, 7, 7, 7, 7, 7, 7, 7, 7, 7, 7, 7, 7, 7, 7, 7, 7, 7, 7, 7, 7, 7, 7, 7, 7, 7, 7, 7, 8, 8, 8, 8, 8, 8, 8, 8, 8, 8, 8, 8, 8, 8, 8, 8, 8, 8, 8, 8, 8, 8, 8, 8, 8, 8, 8, 8, 8, 8, 8, 8, 8, 8, 8, 8, 8, 8, 8, 8, 8, 8, 8, 8, 8, 8, 8, 8, 8, 8, 8, 8, 8, 8, 8, 8, 8, 8, 8, 8, 8, 8, 8, 8, 8, 8, 8, 8, 8, 8, 8, 8, 8, 8, 8, 8, 8, 8, 8, 8, 8, 8, 8, 8, 8, 8, 8, 8, 8, 8, 8, 8, 8, 8, 8, 8, 8, 8, 8, 8, 8, 8, 8, 8, 8, 8, 8, 8, 8, 8, 8, 8, 8, 8, 8, 8, 8, 8, 8, 8, 8, 8, 8, 8, 8, 8, 8, 8]⟩ : ByteArray) i = l ∧ IsLen i l ∧ l ≤ 8 := by
  obtain ⟨n, rfl⟩ := Int.eq_ofNat_of_zero_le (show 0 ≤ i by omega)
  have h := len8_dec ⟨n, by omega⟩ (by simp only; omega)
  simp only at h
  refine ⟨_, (Int.toNat_of_nonneg h.2.1).symm, ⟨h.1, ?_, ?_⟩, h.2.2.1⟩
  · have := h.2.2.2.1
    exact_mod_cast this
  · have := h.2.2.2.2
    exact_mod_cast this
set_option maxRecDepth 100000 in
theorem Len64_j {x n : Int} (h0 : 1 ≤ x) (h1 : x < 4294967296) (hn : 0 ≤ n ∧ n ≤ 32) : ∃ l : Nat, Ev (fun k => bits_Len64.j0 k x n) (n + l) ∧ IsLen x l ∧ l ≤ 32 := by
  by_cases h16 : x ≥ 65536
  · by_cases h8 : x / 65536 ≥ 256
    · have e : x / 65536 / 256 % 256 = x / 65536 / 256 := by omega
      obtain ⟨l, hl, hi, hb⟩ := len8_tab (i := x / 65536 / 256) (by omega) (by omega)
      refine ⟨24 + l, ?_, ?_, by omega⟩
      · refine Ev.step (fun k => by rw [bits_Len64.j0]) ?_
        simp only [if_pos h16, if_pos h8, e, if_pos (show 0 ≤ x / 65536 / 256 by omega), if_pos (show x / 65536 / 256 < 256 by omega), hl]
        rw [wrap_id (x := n + 16) (by omega) (by omega), wrap_id (x := n + 16 + 8) (by omega) (by omega), wrap_id (x := (l : Int)) (by omega) (by omega), wrap_id (by omega) (by omega)]
        exact ev_some (by omega)
      · have e2 : x / 2 ^ 24 = x / 65536 / 256 := by omega
        refine IsLen.up 24 ?_
        rw [e2]; exact hi
    · have e : x / 65536 % 256 = x / 65536 := by omega
      obtain ⟨l, hl, hi, hb⟩ := len8_tab (i := x / 65536) (by omega) (by omega)
      refine ⟨16 + l, ?_, ?_, by omega⟩
      · refine Ev.step (fun k => by rw [bits_Len64.j0]) ?_
        simp only [if_pos h16, if_neg h8, e, if_pos (show 0 ≤ x / 65536 by omega), if_pos (show x / 65536 < 256 by omega), hl]
        rw [wrap_id (x := n + 16) (by omega) (by omega), wrap_id (x := (l : Int)) (by omega) (by omega), wrap_id (by omega) (by omega)]
        exact ev_some (by omega)
      · refine IsLen.up 16 ?_
        exact hi
  · by_cases h8 : x ≥ 256
    · have e : x / 256 % 256 = x / 256 := by omega
      obtain ⟨l, hl, hi, hb⟩ := len8_tab (i := x / 256) (by omega) (by omega)
      refine ⟨8 + l, ?_, ?_, by omega⟩
      · refine Ev.step (fun k => by rw [bits_Len64.j0]) ?_
        simp only [if_neg h16, if_pos h8, e, if_pos (show 0 ≤ x / 256 by omega), if_pos (show x / 256 < 256 by omega), hl]
        rw [wrap_id (x := n + 8) (by omega) (by omega), wrap_id (x := (l : Int)) (by omega) (by omega), wrap_id (by omega) (by omega)]
        exact ev_some (by omega)
      · refine IsLen.up 8 ?_
        exact hi
    · have e : x % 256 = x := by omega
      obtain ⟨l, hl, hi, hb⟩ := len8_tab (i := x) (by omega) (by omega)
      refine ⟨l, ?_, hi, by omega⟩
      refine Ev.step (fun k => by rw [bits_Len64.j0]) ?_
      simp only [if_neg h16, if_neg h8, e, if_pos (show 0 ≤ x by omega), if_pos (show x < 256 by omega), hl]
      rw [wrap_id (x := (l : Int)) (by omega) (by omega), wrap_id (by omega) (by omega)]
      exact Ev.now _
theorem Len64_ev {x : Int} (h0 : 1 ≤ x) (h1 : x < 18446744073709551616) : ∃ l : Nat, Ev (fun k => bits_Len64.f k x) l ∧ IsLen x l ∧ l ≤ 64 := by
  unfold bits_Len64.f
  by_cases h32 : x ≥ 4294967296
  · obtain ⟨l, hl, hi, hb⟩ := Len64_j (x := x / 4294967296) (n := 32) (by omega) (by omega) (by omega)
    refine ⟨32 + l, ?_, IsLen.up 32 hi, by omega⟩
    simp only [if_pos h32]
    exact ev_eq hl (by omega)
  · obtain ⟨l, hl, hi, hb⟩ := Len64_j (x := x) (n := 0) (by omega) (by omega) (by omega)
    refine ⟨l, ?_, hi, by omega⟩
    simp only [if_neg h32]
    exact ev_eq hl (by omega)
theorem Mul64_eq {a b : Int} (a0 : 0 ≤ a) (a1 : a < 18446744073709551616) (b0 : 0 ≤ b) (b1 : b < 18446744073709551616) : bits_Mul64.f a b = some (a * b / 18446744073709551616, a * b % 18446744073709551616) := by
  unfold bits_Mul64.f
  rw [u64_mask32 a0 a1, u64_mask32 b0 b1]
  have hah : 0 ≤ a / 4294967296 ∧ a / 4294967296 ≤ 4294967295 := by omega
  have hal : 0 ≤ a % 4294967296 ∧ a % 4294967296 ≤ 4294967295 := by omega
  have hbh : 0 ≤ b / 4294967296 ∧ b / 4294967296 ≤ 4294967295 := by omega
  have hbl : 0 ≤ b % 4294967296 ∧ b % 4294967296 ≤ 4294967295 := by omega
  have hab : a * b = (a / 4294967296) * (b / 4294967296) * 18446744073709551616 + ((a / 4294967296) * (b % 4294967296) + (a % 4294967296) * (b / 4294967296)) * 4294967296 + (a % 4294967296) * (b % 4294967296) := by
    have ea : a = 4294967296 * (a / 4294967296) + a % 4294967296 := by omega
    have eb : b = 4294967296 * (b / 4294967296) + b % 4294967296 := by omega
    generalize a / 4294967296 = x1 at *
    generalize a % 4294967296 = x0 at *
    generalize b / 4294967296 = y1 at *
    generalize b % 4294967296 = y0 at *
    rw [ea, eb]
    simp only [Int.add_mul, Int.mul_add]
    have e1 : 4294967296 * x1 * (4294967296 * y1) = x1 * y1 * 18446744073709551616 := by
      rw [show (18446744073709551616 : Int) = 4294967296 * 4294967296 by decide]
      simp only [Int.mul_assoc, Int.mul_comm, Int.mul_left_comm]
    have e2 : 4294967296 * x1 * y0 = x1 * y0 * 4294967296 := by rw [Int.mul_assoc, Int.mul_comm]
    have e3 : x0 * (4294967296 * y1) = x0 * y1 * 4294967296 := by rw [Int.mul_left_comm, Int.mul_comm]
    rw [e1, e2, e3]
    omega
  have bound : ∀ {x y : Int}, 0 ≤ x ∧ x ≤ 4294967295 → 0 ≤ y ∧ y ≤ 4294967295 → 0 ≤ x * y ∧ x * y ≤ 18446744065119617025 := by
    intro x y hx hy
    have a := Int.mul_le_mul hx.2 hy.2 hy.1 (by omega)
    exact ⟨Int.mul_nonneg hx.1 hy.1, by omega⟩
  have p11 := bound hah hbh
  have p10 := bound hah hbl
  have p01 := bound hal hbh
  have p00 := bound hal hbl
  generalize (a / 4294967296) * (b / 4294967296) = q11 at *
  generalize (a / 4294967296) * (b % 4294967296) = q10 at *
  generalize (a % 4294967296) * (b / 4294967296) = q01 at *
  generalize (a % 4294967296) * (b % 4294967296) = q00 at *
  rw [hab]
  have w1 : IntKind.u64.wrap q11 = q11 := wrapu_id (by omega) (by omega)
  have w2 : IntKind.u64.wrap q10 = q10 := wrapu_id (by omega) (by omega)
  have w3 : IntKind.u64.wrap q01 = q01 := wrapu_id (by omega) (by omega)
  have w4 : IntKind.u64.wrap q00 = q00 := wrapu_id (by omega) (by omega)
  rw [w1, w2, w3, w4]
  have w5 : IntKind.u64.wrap (q10 + q00 / 4294967296) = q10 + q00 / 4294967296 := wrapu_id (by omega) (by omega)
  rw [w5, u64_mask32 (by omega) (by omega)]
  have w6 : IntKind.u64.wrap ((q10 + q00 / 4294967296) % 4294967296 + q01) = (q10 + q00 / 4294967296) % 4294967296 + q01 := wrapu_id (by omega) (by omega)
  have w7 : IntKind.u64.wrap (q11 + (q10 + q00 / 4294967296) / 4294967296) = q11 + (q10 + q00 / 4294967296) / 4294967296 := wrapu_id (by omega) (by omega)
  rw [w6, w7, wrapu, wrapu]
  congr 2
  omega
theorem Div64_l0 {Y s y1 y0 u v w : Int} {R : Int × Int} (hy : Y = y1 * 4294967296 + y0) (hy1 : 2147483648 ≤ y1) (hy1' : y1 < 4294967296) (hy0 : 0 ≤ y0) (hy0' : y0 < 4294967296) (huY : u < Y) (hv : 0 ≤ v) (hv' : v < 4294967296)
    (hend : Ev (fun k => bits_Div64.j2 k Y s y1 y0 u v w ((u * 4294967296 + v) / Y)) R) : ∀ (n : Nat) (q r : Int), (4294967296 - r).toNat ≤ n → Guess Y y1 u (u * 4294967296 + v) q r → Ev (fun k => bits_Div64.l0 k Y s y1 y0 u v w q r) R := by
  have hY : 0 < Y := by omega
  intro n
  induction n with
  | zero => intro q r hn hg; obtain ⟨_, _, h3, h4, _⟩ := hg; omega
  | succ n ih =>
    intro q r hn hg
    have hg' := hg
    obtain ⟨g1, g2, g3, g4, g5, g6⟩ := hg'
    have go : ∀ b : Bool, (b = true ↔ 4294967296 ≤ q ∨ 4294967296 * r + v < q * y0) → Ev (fun k => bits_Div64.j1 k Y s y1 y0 u v w q r b) R := by
      intro b hb
      refine Ev.step (fun k => by rw [bits_Div64.j1]) ?_
      by_cases hc : 4294967296 ≤ q ∨ 4294967296 * r + v < q * y0
      · obtain ⟨d1, d2, d3⟩ := guess_down hy hY huY hv hv' hg hc
        rw [wrapu_id (n := r + y1) (by omega) (by omega), wrapu_id (n := q - 1) (by omega) (by omega)]
        simp only [hb.2 hc, if_true]
        by_cases hr : r + y1 ≥ 4294967296
        · simp only [if_pos hr]
          have hstop : q - 1 = (u * 4294967296 + v) / Y := by
            have h3 : q - 1 ≤ (u * 4294967296 + v) / Y := by
              rw [Int.le_ediv_iff_mul_le hY, hy, Int.mul_add, ← Int.mul_assoc]
              have h4 : (q - 1) * y0 ≤ 4294967296 * 4294967295 := Int.mul_le_mul (by omega) (by omega) hy0 (by omega)
              omega
            omega
          rw [hstop]; exact hend
        · simp only [if_neg hr]
          exact ih (q - 1) (r + y1) (by omega) ⟨d2, d1, by omega, by omega, by omega, by omega⟩
      · have hbf : b = false := by cases b with
          | true => exact absurd (hb.1 rfl) hc
          | false => rfl
        simp only [hbf, if_neg Bool.false_ne_true]
        have := guess_stop hy hY hg (by omega)
        rw [this]; exact hend
    refine Ev.step (fun k => by rw [bits_Div64.l0]) ?_
    by_cases hq : q ≥ 4294967296
    · simp only [if_pos hq]
      exact go _ (by simp; omega)
    · simp only [if_neg hq]
      have hqy : 0 ≤ q * y0 ∧ q * y0 ≤ 4294967295 * 4294967295 := ⟨Int.mul_nonneg g5 hy0, Int.mul_le_mul (by omega) (by omega) hy0 (by omega)⟩
      rw [wrapu_id (n := q * y0) (by omega) (by omega), wrapu_id (n := 4294967296 * r) (by omega) (by omega), wrapu_id (n := 4294967296 * r + v) (by omega) (by omega)]
      exact go _ (by simp; omega)
theorem Div64_l1 {Y y1 y0 u v q1 : Int} {s : Nat} (hs : s ≤ 64) (hy : Y = y1 * 4294967296 + y0) (hy1 : 2147483648 ≤ y1) (hy1' : y1 < 4294967296) (hy0 : 0 ≤ y0) (hy0' : y0 < 4294967296) (hu : 0 ≤ u) (huY : u < Y) (hv : 0 ≤ v) (hv' : v < 4294967296)
    (hq1 : 0 ≤ q1) (hq1' : q1 < 4294967296) : ∀ (n : Nat) (q r : Int), (4294967296 - r).toNat ≤ n → Guess Y y1 u (u * 4294967296 + v) q r →
    Ev (fun k => bits_Div64.l1 k Y s y1 y0 v q1 r u q) (q1 * 4294967296 + (u * 4294967296 + v) / Y, (u * 4294967296 + v) % Y / 2 ^ s) := by
  have hY : 0 < Y := by omega
  have hlast : ∀ q : Int, q = (u * 4294967296 + v) / Y → IntKind.u64.wrap (IntKind.u64.wrap (q1 * 4294967296) + q) = q1 * 4294967296 + (u * 4294967296 + v) / Y ∧
      shr .u64 (IntKind.u64.wrap (IntKind.u64.wrap (IntKind.u64.wrap (u * 4294967296) + v) - IntKind.u64.wrap (q * Y))) s = (u * 4294967296 + v) % Y / 2 ^ s := by
    intro q hq
    have hqr := quot_rem (n := u * 4294967296 + v) hY
    have hr0 := Int.emod_nonneg (u * 4294967296 + v) (Int.ne_of_gt hY)
    have hr1 := Int.emod_lt_of_pos (u * 4294967296 + v) hY
    have hq0 : 0 ≤ (u * 4294967296 + v) / Y := Int.ediv_nonneg (by omega) (by omega)
    have hqlt : (u * 4294967296 + v) / Y < 4294967296 := by rw [Int.ediv_lt_iff_lt_mul hY]; omega
    rw [shr_u64 hs]
    constructor
    · rw [wrapu_id (n := q1 * 4294967296) (by omega) (by omega), wrapu_id (by omega) (by omega), hq]
    · congr 1
      rw [hq]
      simp only [wrapu]
      generalize (u * 4294967296 + v) / Y * Y = P at *
      generalize (u * 4294967296 + v) % Y = Q at *
      omega
  intro n
  induction n with
  | zero => intro q r hn hg; obtain ⟨_, _, h3, h4, _⟩ := hg; omega
  | succ n ih =>
    intro q r hn hg
    have hg' := hg
    obtain ⟨g1, g2, g3, g4, g5, g6⟩ := hg'
    have hs0 : (0 : Int) ≤ (s : Int) := Int.natCast_nonneg s
    have go : ∀ b : Bool, (b = true ↔ 4294967296 ≤ q ∨ 4294967296 * r + v < q * y0) → Ev (fun k => bits_Div64.j4 k Y s y1 y0 v q1 r u q b) (q1 * 4294967296 + (u * 4294967296 + v) / Y, (u * 4294967296 + v) % Y / 2 ^ s) := by
      intro b hb
      refine Ev.step (fun k => by rw [bits_Div64.j4]) ?_
      by_cases hc : 4294967296 ≤ q ∨ 4294967296 * r + v < q * y0
      · obtain ⟨d1, d2, d3⟩ := guess_down hy hY huY hv hv' hg hc
        rw [wrapu_id (n := r + y1) (by omega) (by omega), wrapu_id (n := q - 1) (by omega) (by omega)]
        simp only [hb.2 hc, if_true]
        by_cases hr : r + y1 ≥ 4294967296
        · simp only [if_pos hr, if_pos hs0]
          have hstop : q - 1 = (u * 4294967296 + v) / Y := by
            have h3 : q - 1 ≤ (u * 4294967296 + v) / Y := by
              rw [Int.le_ediv_iff_mul_le hY, hy, Int.mul_add, ← Int.mul_assoc]
              have h4 : (q - 1) * y0 ≤ 4294967296 * 4294967295 := Int.mul_le_mul (by omega) (by omega) hy0 (by omega)
              omega
            omega
          obtain ⟨l1, l2⟩ := hlast (q - 1) hstop
          rw [l1, l2]
          exact Ev.now _
        · simp only [if_neg hr]
          exact ih (q - 1) (r + y1) (by omega) ⟨d2, d1, by omega, by omega, by omega, by omega⟩
      · have hbf : b = false := by cases b with
          | true => exact absurd (hb.1 rfl) hc
          | false => rfl
        simp only [hbf, if_neg Bool.false_ne_true, if_pos hs0]
        have hstop := guess_stop hy hY hg (by omega)
        obtain ⟨l1, l2⟩ := hlast q hstop
        rw [l1, l2]
        exact Ev.now _
    refine Ev.step (fun k => by rw [bits_Div64.l1]) ?_
    by_cases hq : q ≥ 4294967296
    · simp only [if_pos hq]
      exact go _ (by simp; omega)
    · simp only [if_neg hq]
      have hqy : 0 ≤ q * y0 ∧ q * y0 ≤ 4294967295 * 4294967295 := ⟨Int.mul_nonneg g5 hy0, Int.mul_le_mul (by omega) (by omega) hy0 (by omega)⟩
      rw [wrapu_id (n := q * y0) (by omega) (by omega), wrapu_id (n := 4294967296 * r) (by omega) (by omega), wrapu_id (n := 4294967296 * r + v) (by omega) (by omega)]
      exact go _ (by simp; omega)
theorem Div64_ev {hi lo y : Int} (h0 : 0 ≤ hi) (h1 : hi < y) (hy : y < 18446744073709551616) (l0 : 0 ≤ lo) (l1 : lo < 18446744073709551616) :
    Ev (fun k => bits_Div64.f k hi lo y) ((hi * 18446744073709551616 + lo) / y, (hi * 18446744073709551616 + lo) % y) := by
  unfold bits_Div64.f
  simp only [if_neg (show ¬ y = 0 by omega), if_neg (show ¬ y ≤ hi by omega)]
  by_cases hz : hi = 0
  · simp only [if_pos hz]
    refine ev_some ?_
    rw [hz, Int.zero_mul, Int.zero_add, Int.tdiv_eq_ediv_of_nonneg l0, Int.tmod_eq_emod_of_nonneg l0, wrapu_id (Int.ediv_nonneg l0 (by omega))]
    have := Int.ediv_le_self y l0
    omega
  · obtain ⟨L, hL, ⟨i1, i2, i3⟩, hL64⟩ := Len64_ev (x := y) (by omega) hy
    have hlz : Ev (fun k => bits_LeadingZeros64.f k y) ((64 - L : Nat) : Int) := by
      unfold bits_LeadingZeros64.f
      rw [bnd hL]
      exact ev_some (by rw [wrap_id (by omega) (by omega)]; omega)
    simp only [if_neg hz]
    rw [bnd hlz]
    generalize hs : 64 - L = s
    have hs64 : s ≤ 63 := by omega
    have eL : L = 64 - s := by omega
    subst eL
    have w1 : IntKind.u64.wrap ((s : Nat) : Int) = s := wrapu_id (by omega) (by omega)
    have w2 : IntKind.u64.wrap (64 - (s : Int)) = ((64 - s : Nat) : Int) := by rw [wrapu_id (by omega) (by omega)]; omega
    simp only [w1, w2]
    rw [shl_u64 (x := y) (by omega), shl_u64 (x := hi) (by omega), shl_u64 (x := lo) (by omega), shr_u64 (x := lo) (s := 64 - s) (by omega)]
    have hS := two_pow_pos' s
    have hT := two_pow_pos' (64 - s)
    have hST : (2 : Int) ^ (64 - s) * 2 ^ s = 18446744073709551616 := by
      rw [← Int.pow_add]
      have : 64 - s + s = 64 := by omega
      rw [this]; decide
    have hST1 : (2 : Int) ^ (64 - s - 1) * 2 ^ s = 9223372036854775808 := by
      rw [← Int.pow_add]
      have : 64 - s - 1 + s = 63 := by omega
      rw [this]; decide
    have hY1 : y * 2 ^ s < 18446744073709551616 := by rw [← hST]; exact Int.mul_lt_mul_of_pos_right i3 hS
    have hY0 : 9223372036854775808 ≤ y * 2 ^ s := by rw [← hST1]; exact Int.mul_le_mul_of_nonneg_right i2 (Int.le_of_lt hS)
    have hH0 : 0 ≤ hi * 2 ^ s := Int.mul_nonneg h0 (Int.le_of_lt hS)
    have hH1 : hi * 2 ^ s + 2 ^ s ≤ y * 2 ^ s := by
      have := Int.mul_le_mul_of_nonneg_right (show hi + 1 ≤ y by omega) (Int.le_of_lt hS)
      rw [Int.add_mul, Int.one_mul] at this
      exact this
    have eY : y * 2 ^ s % 18446744073709551616 = y * 2 ^ s := Int.emod_eq_of_lt (by omega) hY1
    have eH : hi * 2 ^ s % 18446744073709551616 = hi * 2 ^ s := Int.emod_eq_of_lt hH0 (by omega)
    have hq0 : 0 ≤ lo / 2 ^ (64 - s) := Int.ediv_nonneg l0 (Int.le_of_lt hT)
    have hq1 : lo / 2 ^ (64 - s) < 2 ^ s := by
      rw [Int.ediv_lt_iff_lt_mul hT, Int.mul_comm, hST]; exact l1
    rw [eY, eH, or_u64 (s := s) (by omega) hH0 (Int.dvd_mul_left _ _) (by omega) hq0 hq1 (by omega)]
    rw [u64_mask32 (x := y * 2 ^ s) (by omega) hY1]
    have hlo := Int.emod_nonneg (lo * 2 ^ s) (show (18446744073709551616 : Int) ≠ 0 by decide)
    have hlo1 := Int.emod_lt_of_pos (lo * 2 ^ s) (show (0 : Int) < 18446744073709551616 by decide)
    rw [u64_mask32 (x := lo * 2 ^ s % 18446744073709551616) hlo hlo1]
    have hV : (hi * 18446744073709551616 + lo) * 2 ^ s = (hi * 2 ^ s + lo / 2 ^ (64 - s)) * 18446744073709551616 + lo * 2 ^ s % 18446744073709551616 := by
      have a1 : lo * 2 ^ s / 18446744073709551616 = lo / 2 ^ (64 - s) := by
        rw [← hST]; exact Int.mul_ediv_mul_of_pos_left lo _ hS
      have a2 := Int.mul_ediv_add_emod (lo * 2 ^ s) 18446744073709551616
      rw [a1] at a2
      rw [Int.add_mul, Int.add_mul, Int.mul_right_comm]
      omega
    have hw : lo * 2 ^ s % 18446744073709551616 = lo * 2 ^ s % 18446744073709551616 / 4294967296 * 4294967296 + lo * 2 ^ s % 18446744073709551616 % 4294967296 := by omega
    obtain ⟨t1, t2⟩ := two_digits hS (show 0 < y by omega) hV hw
    have v10 : 0 ≤ lo * 2 ^ s % 18446744073709551616 / 4294967296 ∧ lo * 2 ^ s % 18446744073709551616 / 4294967296 < 4294967296 := by omega
    have v00 : 0 ≤ lo * 2 ^ s % 18446744073709551616 % 4294967296 ∧ lo * 2 ^ s % 18446744073709551616 % 4294967296 < 4294967296 := by omega
    have u0 : 0 ≤ hi * 2 ^ s + lo / 2 ^ (64 - s) ∧ hi * 2 ^ s + lo / 2 ^ (64 - s) < y * 2 ^ s := by omega
    generalize lo * 2 ^ s % 18446744073709551616 / 4294967296 = v1 at *
    generalize lo * 2 ^ s % 18446744073709551616 % 4294967296 = v0 at *
    generalize hi * 2 ^ s + lo / 2 ^ (64 - s) = u at *
    generalize hYY : y * 2 ^ s = Y at *
    have hy1a : 2147483648 ≤ Y / 4294967296 ∧ Y / 4294967296 < 4294967296 := by omega
    have hy0a : 0 ≤ Y % 4294967296 ∧ Y % 4294967296 < 4294967296 := by omega
    have hYs : Y = Y / 4294967296 * 4294967296 + Y % 4294967296 := by omega
    have hY : 0 < Y := by omega
    simp only [if_pos (show (0 : Int) ≤ (s : Int) by omega), if_pos (show (0 : Int) ≤ ((64 - s : Nat) : Int) by omega), if_neg (show ¬ Y / 4294967296 = 0 by omega)]
    rw [Int.tdiv_eq_ediv_of_nonneg u0.1]
    have g1 := guess_first hYs hy1a.1 hy1a.2 hy0a.1 hy0a.2 u0.1 u0.2 v10.1 v10.2
    have hdm : 0 ≤ u / (Y / 4294967296) * (Y / 4294967296) ∧ u / (Y / 4294967296) * (Y / 4294967296) ≤ u := by
      obtain ⟨ga, _, gc, _, ge, _⟩ := g1
      exact ⟨Int.mul_nonneg ge (by omega), by omega⟩
    have gb := g1
    obtain ⟨_, _, gc, gd, ge, gf⟩ := gb
    rw [wrapu_id (n := u / (Y / 4294967296)) (by omega) (by omega), wrapu_id (n := u / (Y / 4294967296) * (Y / 4294967296)) (by omega) (by omega), wrapu_id (n := u - u / (Y / 4294967296) * (Y / 4294967296)) (by omega) (by omega)]
    refine Div64_l0 hYs hy1a.1 hy1a.2 hy0a.1 hy0a.2 u0.2 v10.1 v10.2 ?_ _ _ _ (Nat.le_refl _) g1
    refine Ev.step (fun k => by rw [bits_Div64.j2]) ?_
    simp only [if_neg (show ¬ Y / 4294967296 = 0 by omega)]
    have hqr := quot_rem (n := u * 4294967296 + v1) hY
    have hr0 := Int.emod_nonneg (u * 4294967296 + v1) (Int.ne_of_gt hY)
    have hr1 := Int.emod_lt_of_pos (u * 4294967296 + v1) hY
    have hd0 : 0 ≤ (u * 4294967296 + v1) / Y := Int.ediv_nonneg (by omega) (by omega)
    have hd1 : (u * 4294967296 + v1) / Y < 4294967296 := by rw [Int.ediv_lt_iff_lt_mul hY]; omega
    have e21 : IntKind.u64.wrap (IntKind.u64.wrap (IntKind.u64.wrap (u * 4294967296) + v1) - IntKind.u64.wrap ((u * 4294967296 + v1) / Y * Y)) = (u * 4294967296 + v1) % Y := by
      simp only [wrapu]
      generalize (u * 4294967296 + v1) / Y * Y = P at *
      generalize (u * 4294967296 + v1) % Y = Q at *
      omega
    rw [e21]
    generalize (u * 4294967296 + v1) % Y = u2 at *
    generalize (u * 4294967296 + v1) / Y = q1 at *
    rw [Int.tdiv_eq_ediv_of_nonneg hr0]
    have g2 := guess_first hYs hy1a.1 hy1a.2 hy0a.1 hy0a.2 hr0 hr1 v00.1 v00.2
    have gb2 := g2
    obtain ⟨_, _, gc2, gd2, ge2, gf2⟩ := gb2
    have hdm2 : 0 ≤ u2 / (Y / 4294967296) * (Y / 4294967296) ∧ u2 / (Y / 4294967296) * (Y / 4294967296) ≤ u2 := ⟨Int.mul_nonneg ge2 (by omega), by omega⟩
    rw [wrapu_id (n := u2 / (Y / 4294967296)) (by omega) (by omega), wrapu_id (n := u2 / (Y / 4294967296) * (Y / 4294967296)) (by omega) (by omega), wrapu_id (n := u2 - u2 / (Y / 4294967296) * (Y / 4294967296)) (by omega) (by omega)]
    have hfin := Div64_l1 (s := s) (by omega) hYs hy1a.1 hy1a.2 hy0a.1 hy0a.2 hr0 hr1 v00.1 v00.2 hd0 hd1 _ _ _ (Nat.le_refl _) g2
    rw [t1, t2] at hfin
    exact hfin
theorem times_ev {a b m : Int} (h0 : 0 < m) (h1 : m ≤ 4611686018427387904) : Ev (fun k => impl_times.f k a b m) (a * b % m) := by
  unfold impl_times.f
  have a0 := Int.emod_nonneg a (Int.ne_of_gt h0)
  have a1 := Int.emod_lt_of_pos a h0
  have b0 := Int.emod_nonneg b (Int.ne_of_gt h0)
  have b1 := Int.emod_lt_of_pos b h0
  simp only [mod_ev h0 h1, Option.bind_some]
  rw [wrapu_id (n := a % m) a0 (by omega), wrapu_id (n := b % m) b0 (by omega), wrapu_id (n := m) (by omega) (by omega)]
  simp only [Mul64_eq a0 (show a % m < 18446744073709551616 by omega) b0 (show b % m < 18446744073709551616 by omega), Option.bind_some, if_neg (Int.ne_of_gt h0)]
  have p0 : 0 ≤ a % m * (b % m) := Int.mul_nonneg a0 b0
  have hd0 : 0 ≤ a % m * (b % m) / 18446744073709551616 := Int.ediv_nonneg p0 (by decide)
  rw [Int.tmod_eq_emod_of_nonneg hd0]
  have r0 := Int.emod_nonneg (a % m * (b % m) / 18446744073709551616) (Int.ne_of_gt h0)
  have r1 := Int.emod_lt_of_pos (a % m * (b % m) / 18446744073709551616) h0
  have s0 := Int.emod_nonneg (a % m * (b % m)) (show (18446744073709551616 : Int) ≠ 0 by decide)
  have s1 := Int.emod_lt_of_pos (a % m * (b % m)) (show (0 : Int) < 18446744073709551616 by decide)
  rw [bnd (Div64_ev r0 r1 (by omega) s0 s1)]
  have e : (a % m * (b % m) / 18446744073709551616 % m * 18446744073709551616 + a % m * (b % m) % 18446744073709551616) % m = a * b % m := by
    rw [Int.add_emod, mul_emod_left, ← Int.add_emod]
    have : a % m * (b % m) / 18446744073709551616 * 18446744073709551616 + a % m * (b % m) % 18446744073709551616 = a % m * (b % m) := by
      have := Int.mul_ediv_add_emod (a % m * (b % m)) 18446744073709551616
      omega
    rw [this, ← Int.mul_emod]
  have t0 := Int.emod_nonneg (a * b) (Int.ne_of_gt h0)
  have t1 := Int.emod_lt_of_pos (a * b) h0
  refine ev_some ?_
  simp only
  rw [e, wrap_id (by omega) (by omega)]
/-- The sum of two forms, the first one's Down being the lesser. -/
def SumO (p u m d u' m' d' : Int) : Int × Int × Int := (sumUp p (mn u u').toNat (m' - p ^ (d' - d).toNat * m), m % p ^ (sumUp p (mn u u').toNat (m' - p ^ (d' - d).toNat * m)).toNat, d)
def SumL (p u m d u' m' d' : Int) : Int × Int × Int := if d > d' then SumO p u' m' d' u m d else SumO p u m d u' m' d'
theorem sum_parts {p u m d u' m' d' : Int} (hp : IsP p) (h : Lat p u m d) (h' : Lat p u' m' d') : 0 ≤ mn u u' ∧ mn u u' ≤ 12 ∧ (mn u u' = u ∨ mn u u' = u') ∧ mn u u' ≤ u ∧ mn u u' ≤ u' ∧ (0 ≤ m ∧ m < 13841287201) ∧ (0 ≤ m' ∧ m' < 13841287201) ∧ (0 ≤ d ∧ d ≤ 12) ∧ (0 ≤ d' ∧ d' ≤ 12) := by
  have hs := h.small hp
  have hs' := h'.small hp
  unfold Lat at h h'
  unfold mn
  refine ⟨?_, ?_, ?_, ?_, ?_, hs, hs', ?_, ?_⟩ <;> (try split) <;> omega
theorem sumOf_j {p u m d u' m' d' : Int} (hp : IsP p) (h : Lat p u m d) (h' : Lat p u' m' d') (hd : d ≤ d') : Ev (fun k => impl_sumOf.j0 k p u m d u' m' d') (SumO p u m d u' m' d') := by
  refine Ev.step (fun k => by rw [impl_sumOf.j0]) ?_
  obtain ⟨z0, z1, _, _, _, hs, hs', hdr, hdr'⟩ := sum_parts hp h h'
  have hr := sumUp_range (x := m' - p ^ (d' - d).toNat * m) (e := (mn u u').toNat) hp
  have h0 := pow_pos' hp (mn u u').toNat
  have h7 := pow_le_seven hp (m := (mn u u').toNat) (n := 12) (by omega)
  have e12 : (7 : Int) ^ 12 = 13841287201 := by decide
  rw [wrap_id (x := d' - d) (by omega) (by omega), bnd (power_ev hp (by omega)), bnd (power_ev hp (by omega)), bnd (times_ev h0 (by omega))]
  have t0 := Int.emod_nonneg (p ^ (d' - d).toNat * m) (Int.ne_of_gt h0)
  have t1 := Int.emod_lt_of_pos (p ^ (d' - d).toNat * m) h0
  rw [wrap_id (x := m' - p ^ (d' - d).toNat * m % p ^ (mn u u').toNat) (by omega) (by omega)]
  simp only [mod_ev h0 (show p ^ (mn u u').toNat ≤ 4611686018427387904 by omega), Option.bind_some]
  have y0 := Int.emod_nonneg (m' - p ^ (d' - d).toNat * m % p ^ (mn u u').toNat) (Int.ne_of_gt h0)
  have y1 := Int.emod_lt_of_pos (m' - p ^ (d' - d).toNat * m % p ^ (mn u u').toNat) h0
  rw [bnd (valuation_any hp (by omega) (by omega))]
  have hs1 : mn (mn u u') (vx p ((m' - p ^ (d' - d).toNat * m % p ^ (mn u u').toNat) % p ^ (mn u u').toNat)) = sumUp p (mn u u').toNat (m' - p ^ (d' - d).toNat * m) := by
    have key := sumUp_rest (x := m' - p ^ (d' - d).toNat * m) (y := (m' - p ^ (d' - d).toNat * m % p ^ (mn u u').toNat) % p ^ (mn u u').toNat) (e := (mn u u').toNat) (z := 1000) hp ?_ ?_ (by omega)
    · rw [Int.toNat_of_nonneg z0] at key; exact key
    · have b1 := dvd_emod_sub (p ^ (d' - d).toNat * m) (p ^ (mn u u').toNat)
      have b2 := dvd_emod_sub (m' - p ^ (d' - d).toNat * m % p ^ (mn u u').toNat) (p ^ (mn u u').toNat)
      have b3 := Int.dvd_sub b1 b2
      generalize p ^ (d' - d).toNat * m % p ^ (mn u u').toNat = q at *
      generalize (m' - q) % p ^ (mn u u').toNat = r at *
      have e1 : q - p ^ (d' - d).toNat * m - (r - (m' - q)) = m' - p ^ (d' - d).toNat * m - r := by omega
      rwa [e1] at b3
    · intro hc
      have := Int.emod_eq_zero_of_dvd hc
      rwa [Int.emod_emod] at this
  simp only [hs1]
  rw [bnd (power_ev hp (by omega))]
  simp only [if_neg (pow_ne' hp _)]
  rw [Int.tmod_eq_emod_of_nonneg hs.1]
  exact Ev.now _
theorem sumOf_ev {p u m d u' m' d' : Int} (hp : IsP p) (h : Lat p u m d) (h' : Lat p u' m' d') : Ev (fun k => impl_sumOf.f k p u m d u' m' d') (SumL p u m d u' m' d') := by
  unfold impl_sumOf.f SumL
  by_cases hd : d > d'
  · simp only [if_pos hd]; exact sumOf_j hp h' h (by omega)
  · simp only [if_neg hd]; exact sumOf_j hp h h' (by omega)
theorem l03Sum_j {p u m d u' m' d' : Int} (hp : IsP p) (h : Lat p u m d) (h' : Lat p u' m' d') (hd : d ≤ d') : Ev (fun k => spec_l03Sum.j0 k p u m d u' m' d') (SumO p u m d u' m' d') := by
  refine Ev.step (fun k => by rw [spec_l03Sum.j0]) ?_
  obtain ⟨z0, z1, _, _, _, hs, hs', hdr, hdr'⟩ := sum_parts hp h h'
  have hr := sumUp_range (x := m' - p ^ (d' - d).toNat * m) (e := (mn u u').toNat) hp
  have h0 := pow_pos' hp (mn u u').toNat
  have h7 := pow_le_seven hp (m := (mn u u').toNat) (n := 12) (by omega)
  have e12 : (7 : Int) ^ 12 = 13841287201 := by decide
  have h13 := pow_pos' hp 13
  have h13' := pow_le_seven hp (m := 13) (n := 13) (Nat.le_refl _)
  have e13 : (7 : Int) ^ 13 = 96889010407 := by decide
  have p13 := l01Power_ev hp (n := 13) (by omega)
  rw [show (13 : Int).toNat = 13 from rfl] at p13
  rw [wrap_id (x := d' - d) (by omega) (by omega), bnd (l01Power_ev hp (by omega)), bnd (l01Power_ev hp (by omega)), bnd p13]
  simp only [l01MulMod_eq h13 (show p ^ 13 ≤ 100000000000 by omega), Option.bind_some, if_neg (pow_ne' hp _)]
  have t0 := Int.emod_nonneg (m * p ^ (d' - d).toNat) (Int.ne_of_gt h13)
  have t1 := Int.emod_lt_of_pos (m * p ^ (d' - d).toNat) h13
  rw [wrap_id (x := m' - m * p ^ (d' - d).toNat % p ^ 13) (by omega) (by omega)]
  have hb := mod_between (n := m' - m * p ^ (d' - d).toNat % p ^ 13) h0
  rw [bnd (l03Vals_ev hp (by omega) (by omega))]
  have hs1 : mn (mn u u') (if Int.tmod (m' - m * p ^ (d' - d).toNat % p ^ 13) (p ^ (mn u u').toNat) = 0 then 100 else (vl p (Int.tmod (m' - m * p ^ (d' - d).toNat % p ^ 13) (p ^ (mn u u').toNat)) : Int)) = sumUp p (mn u u').toNat (m' - p ^ (d' - d).toNat * m) := by
    have key := sumUp_rest (x := m' - p ^ (d' - d).toNat * m) (y := Int.tmod (m' - m * p ^ (d' - d).toNat % p ^ 13) (p ^ (mn u u').toNat)) (e := (mn u u').toNat) (z := 100) hp ?_ ?_ (by omega)
    · rw [Int.toNat_of_nonneg z0] at key; exact key
    · have a1 : p ^ (mn u u').toNat ∣ m * p ^ (d' - d).toNat % p ^ 13 - m * p ^ (d' - d).toNat := Int.dvd_trans (pow_dvd (by omega)) (dvd_emod_sub _ _)
      have a2 : p ^ (mn u u').toNat ∣ (m' - m * p ^ (d' - d).toNat % p ^ 13) - Int.tmod (m' - m * p ^ (d' - d).toNat % p ^ 13) (p ^ (mn u u').toNat) := by
        rw [Int.tmod_def]
        exact ⟨Int.tdiv (m' - m * p ^ (d' - d).toNat % p ^ 13) (p ^ (mn u u').toNat), by omega⟩
      have a3 := Int.dvd_add a1 a2
      have e1 : m * p ^ (d' - d).toNat = p ^ (d' - d).toNat * m := Int.mul_comm _ _
      rw [e1] at a3 ⊢
      generalize p ^ (d' - d).toNat * m % p ^ 13 = q at *
      generalize Int.tmod (m' - q) (p ^ (mn u u').toNat) = r at *
      have e2 : q - p ^ (d' - d).toNat * m + (m' - q - r) = m' - p ^ (d' - d).toNat * m - r := by omega
      rwa [e2] at a3
    · intro hc
      by_cases hz : Int.tmod (m' - m * p ^ (d' - d).toNat % p ^ 13) (p ^ (mn u u').toNat) = 0
      · exact hz
      · exfalso
        have h1 := Int.le_of_dvd (show 0 < ((Int.tmod (m' - m * p ^ (d' - d).toNat % p ^ 13) (p ^ (mn u u').toNat)).natAbs : Int) by omega) (Int.dvd_natAbs.2 hc)
        omega
  simp only [hs1]
  rw [bnd (l01Power_ev hp (by omega))]
  simp only [if_neg (pow_ne' hp _)]
  rw [Int.tmod_eq_emod_of_nonneg hs.1]
  exact Ev.now _
theorem l03Sum_ev {p u m d u' m' d' : Int} (hp : IsP p) (h : Lat p u m d) (h' : Lat p u' m' d') : Ev (fun k => spec_l03Sum.f k p u m d u' m' d') (SumL p u m d u' m' d') := by
  unfold spec_l03Sum.f SumL
  by_cases hd : d > d'
  · simp only [if_pos hd]; exact l03Sum_j hp h' h (by omega)
  · simp only [if_neg hd]; exact l03Sum_j hp h h' (by omega)
theorem SumL_ud {p u m d u' m' d' : Int} (hp : IsP p) : (SumL p u m d u' m' d').1 = (SumL p u' m' d' u m d).1 ∧ (SumL p u m d u' m' d').2.2 = (SumL p u' m' d' u m d).2.2 := by
  have hmn : mn u u' = mn u' u := by unfold mn; repeat' split
                                     all_goals omega
  unfold SumL
  by_cases h1 : d > d'
  · rw [if_pos h1, if_neg (show ¬ d' > d by omega)]; exact ⟨rfl, rfl⟩
  · by_cases h2 : d' > d
    · rw [if_neg h1, if_pos h2]; exact ⟨rfl, rfl⟩
    · have e : d = d' := by omega
      subst e
      rw [if_neg h1, if_neg h1]
      unfold SumO
      refine ⟨?_, rfl⟩
      simp only [Int.sub_self, Int.toNat_zero, Int.pow_zero, Int.one_mul]
      rw [hmn, ← sumUp_neg hp]
      congr 1
      omega
theorem SumL_range {p u m d u' m' d' : Int} (hp : IsP p) (h : Lat p u m d) (h' : Lat p u' m' d') : 0 ≤ (SumL p u m d u' m' d').1 ∧ (SumL p u m d u' m' d').1 ≤ u ∧ (SumL p u m d u' m' d').1 ≤ u' ∧ (SumL p u m d u' m' d').2.2 = mn d d' := by
  have key : ∀ {u m d u' m' d' : Int}, Lat p u m d → Lat p u' m' d' → 0 ≤ (SumO p u m d u' m' d').1 ∧ (SumO p u m d u' m' d').1 ≤ u ∧ (SumO p u m d u' m' d').1 ≤ u' := by
    intro u m d u' m' d' h h'
    obtain ⟨z0, z1, z2, z3, z4, _⟩ := sum_parts hp h h'
    have hr := sumUp_range (x := m' - p ^ (d' - d).toNat * m) (e := (mn u u').toNat) hp
    unfold SumO
    simp only
    omega
  unfold SumL
  by_cases hd : d > d'
  · rw [if_pos hd]
    have := key h' h
    refine ⟨this.1, this.2.2, this.2.1, ?_⟩
    show d' = mn d d'
    unfold mn; rw [if_pos (by omega)]
  · rw [if_neg hd]
    have := key h h'
    refine ⟨this.1, this.2.1, this.2.2, ?_⟩
    show d = mn d d'
    unfold mn; rw [if_neg (by omega)]
def meetD (p u m d u' m' d' : Int) : Int := u + d + u' + d' - (SumL p u m d u' m' d').1 - (SumL p u m d u' m' d').2.2 - mx u u'
def MeetR (p u m d u' m' d' : Int) : Int × Int × Int × Int :=
  if IsP p ∧ Lat p u m d ∧ Lat p u' m' d' then
    (if meetD p u m d u' m' d' > 12 then (0, 0, 0, 3) else
      (if u < u' then (u', m' * p ^ (meetD p u m d u' m' d' - d').toNat % p ^ u'.toNat, meetD p u m d u' m' d', 0) else (u, m * p ^ (meetD p u m d u' m' d' - d).toNat % p ^ u.toNat, meetD p u m d u' m' d', 0)))
  else (0, 0, 0, 1)
theorem meet_range {p u m d u' m' d' : Int} (hp : IsP p) (h : Lat p u m d) (h' : Lat p u' m' d') : 0 ≤ meetD p u m d u' m' d' ∧ d ≤ meetD p u m d u' m' d' ∧ d' ≤ meetD p u m d u' m' d' ∧ meetD p u m d u' m' d' ≤ 48 := by
  obtain ⟨a, b, c, e⟩ := SumL_range hp h h'
  unfold meetD
  rw [e]
  unfold Lat at h h'
  unfold mn mx
  repeat' split
  all_goals omega
theorem implMeet_j {p u m d u' m' d' : Int} (hp : IsP p) (h : Lat p u m d) (h' : Lat p u' m' d') (hu : u' ≤ u) :
    Ev (fun k => impl_MeetOfLattices.j0 k p u m d u' m' d') (if meetD p u m d u' m' d' > 12 then (0, 0, 0, 3) else (u, m * p ^ (meetD p u m d u' m' d' - d).toNat % p ^ u.toNat, meetD p u m d u' m' d', 0)) := by
  refine Ev.step (fun k => by rw [impl_MeetOfLattices.j0]) ?_
  rw [bnd (sumOf_ev hp h h')]
  obtain ⟨a, b, c, e⟩ := SumL_range hp h h'
  have hm := meet_range hp h h'
  have hs := h.small hp
  have hr : 0 ≤ u ∧ u ≤ 12 ∧ 0 ≤ d ∧ d ≤ 12 ∧ 0 ≤ u' ∧ u' ≤ 12 ∧ 0 ≤ d' ∧ d' ≤ 12 := by unfold Lat at h h'; omega
  have hmn : 0 ≤ mn d d' ∧ mn d d' ≤ 12 := by unfold mn; split <;> omega
  have emx : mx u u' = u := by unfold mx; rw [if_neg (by omega)]
  rw [e]
  have hM : meetD p u m d u' m' d' = u + d + u' + d' - (SumL p u m d u' m' d').1 - mn d d' - u := by unfold meetD; rw [e, emx]
  rw [hM] at hm ⊢
  generalize (SumL p u m d u' m' d').1 = s at *
  rw [wrap_id (x := u + d) (by omega) (by omega), wrap_id (x := u + d + u') (by omega) (by omega), wrap_id (x := u + d + u' + d') (by omega) (by omega), wrap_id (x := u + d + u' + d' - s) (by omega) (by omega),
    wrap_id (x := u + d + u' + d' - s - mn d d') (by omega) (by omega), wrap_id (x := u + d + u' + d' - s - mn d d' - u) (by omega) (by omega)]
  generalize u + d + u' + d' - s - mn d d' - u = D at *
  by_cases hD : D > 12
  · simp only [if_pos hD]; exact Ev.now _
  · simp only [if_neg hD]
    have h0 := pow_pos' hp u.toNat
    have h1 := pow_le_22 hp (n := u.toNat) (by omega)
    rw [wrap_id (x := D - d) (by omega) (by omega), bnd (power_ev hp (by omega)), bnd (power_ev hp (by omega)), bnd (times_ev h0 (by omega))]
    unfold impl_form.f
    simp only [if_neg (show ¬ u > 12 by omega), if_neg hD, Option.bind_some]
    refine ev_some ?_
    rw [Int.mul_comm]
theorem implMeetOfLattices_ev {p u m d u' m' d' : Int} : Ev (fun k => impl_MeetOfLattices.f k p u m d u' m' d') (MeetR p u m d u' m' d') := by
  unfold impl_MeetOfLattices.f MeetR
  rw [bnd areLattices2]
  by_cases h : IsP p ∧ Lat p u m d ∧ Lat p u' m' d'
  · simp only [h, and_self, decide_true, if_true]
    by_cases hu : u < u'
    · simp only [if_pos hu]
      have e : meetD p u m d u' m' d' = meetD p u' m' d' u m d := by
        unfold meetD
        obtain ⟨s1, s2⟩ := SumL_ud (u := u) (m := m) (d := d) (u' := u') (m' := m') (d' := d') h.1
        rw [s1, s2]
        have : mx u u' = mx u' u := by unfold mx; repeat' split
                                       all_goals omega
        rw [this]; omega
      rw [e]
      exact implMeet_j h.1 h.2.2 h.2.1 (by omega)
    · simp only [if_neg hu]
      exact implMeet_j h.1 h.2.1 h.2.2 (by omega)
  · simp only [h, decide_false, if_neg Bool.false_ne_true, if_false]; exact Ev.now _
theorem specMeetOfLattices_ev {p u m d u' m' d' : Int} : Ev (fun k => spec_MeetOfLattices.f k p u m d u' m' d') (MeetR p u m d u' m' d') := by
  unfold spec_MeetOfLattices.f MeetR
  rw [bnd l03Code2]
  by_cases h : IsP p ∧ Lat p u m d ∧ Lat p u' m' d'
  · simp only [h, and_self, if_true]
    unfold spec_l03Meet.f
    simp only [Option.bind_assoc]
    rw [bnd (l03Sum_ev h.1 h.2.1 h.2.2)]
    obtain ⟨a, b, c, e⟩ := SumL_range h.1 h.2.1 h.2.2
    have hm := meet_range h.1 h.2.1 h.2.2
    have hr : 0 ≤ u ∧ u ≤ 12 ∧ 0 ≤ d ∧ d ≤ 12 ∧ 0 ≤ u' ∧ u' ≤ 12 ∧ 0 ≤ d' ∧ d' ≤ 12 := by have h1 := h.2.1; have h2 := h.2.2; unfold Lat at h1 h2; omega
    have hmn : 0 ≤ mn d d' ∧ mn d d' ≤ 12 := by unfold mn; split <;> omega
    have hmx : 0 ≤ mx u u' ∧ mx u u' ≤ 12 := by unfold mx; split <;> omega
    have hM : meetD p u m d u' m' d' = u + d + u' + d' - (SumL p u m d u' m' d').1 - mn d d' - mx u u' := by unfold meetD; rw [e]
    rw [e]
    rw [hM] at hm ⊢
    generalize (SumL p u m d u' m' d').1 = s at *
    rw [wrap_id (x := u + d) (by omega) (by omega), wrap_id (x := u + d + u') (by omega) (by omega), wrap_id (x := u + d + u' + d') (by omega) (by omega), wrap_id (x := u + d + u' + d' - s) (by omega) (by omega),
      wrap_id (x := u + d + u' + d' - s - mn d d') (by omega) (by omega), wrap_id (x := u + d + u' + d' - s - mn d d' - mx u u') (by omega) (by omega)]
    generalize u + d + u' + d' - s - mn d d' - mx u u' = D at *
    by_cases hD : D > 12
    · simp only [if_pos hD, Option.bind_some, if_neg Bool.false_ne_true]; exact Ev.now _
    · simp only [if_neg hD]
      by_cases hu : u < u'
      · have h0 := pow_pos' h.1 u'.toNat
        have h7 := pow_le_seven h.1 (m := u'.toNat) (n := 12) (by omega)
        have e12 : (7 : Int) ^ 12 = 13841287201 := by decide
        have emx : mx u u' = u' := by unfold mx; rw [if_pos hu]
        simp only [if_pos hu, emx, Option.bind_assoc]
        rw [wrap_id (x := D - d') (by omega) (by omega), bnd (l01Power_ev h.1 (by omega)), bnd (l01Power_ev h.1 (by omega))]
        simp only [l01MulMod_eq h0 (show p ^ u'.toNat ≤ 100000000000 by omega), Option.bind_some, if_true]
        exact Ev.now _
      · have h0 := pow_pos' h.1 u.toNat
        have h7 := pow_le_seven h.1 (m := u.toNat) (n := 12) (by omega)
        have e12 : (7 : Int) ^ 12 = 13841287201 := by decide
        have emx : mx u u' = u := by unfold mx; rw [if_neg (by omega)]
        simp only [if_neg hu, emx, Option.bind_assoc]
        rw [wrap_id (x := D - d) (by omega) (by omega), bnd (l01Power_ev h.1 (by omega)), bnd (l01Power_ev h.1 (by omega))]
        simp only [l01MulMod_eq h0 (show p ^ u.toNat ≤ 100000000000 by omega), Option.bind_some, if_true]
        exact Ev.now _
  · simp only [h, if_false, if_neg (show ¬ (1 : Int) = 0 by omega)]; exact Ev.now _
def FnExactMeetOfLatticesPure : Prop := ∀ (a0 : Int) (a1_0 : Int) (a1_1 : Int) (a1_2 : Int) (a2_0 : Int) (a2_1 : Int) (a2_2 : Int), (Lit.int .i64 a0).wf = true → (Lit.int .i64 a1_0).wf = true → (Lit.int .i64 a1_1).wf = true → (Lit.int .i64 a1_2).wf = true → (Lit.int .i64 a2_0).wf = true → (Lit.int .i64 a2_1).wf = true → (Lit.int .i64 a2_2).wf = true → ∃ k, laws_FnExactMeetOfLattices.f k a0 a1_0 a1_1 a1_2 a2_0 a2_1 a2_2 = some true
theorem FnExactMeetOfLattices : FnExactMeetOfLatticesPure := by
  intro a0 a1 a2 a3 a4 a5 a6 w0 w1 w2 w3 w4 w5 w6
  refine Ev.rounds (g := fun k => laws_FnExactMeetOfLattices.f k a0 a1 a2 a3 a4 a5 a6) ?_
  unfold laws_FnExactMeetOfLattices.f
  simp only [laws_toLattice.f, Option.bind_some]
  rw [bnd specMeetOfLattices_ev, bnd implMeetOfLattices_ev]
  simp only [laws_eqLattice.f, if_true, Option.bind_some]
  exact Ev.now _

end Go.Proofs.Ytbjdnagmjponbaa.Pure

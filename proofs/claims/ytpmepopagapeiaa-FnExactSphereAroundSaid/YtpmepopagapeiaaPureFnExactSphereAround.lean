/- SphereAround and the reference's SphereAround answer the same for every prime, every ball and every radius, in memory of their own. No condition. -/
import Derived.Test.YtpmepopagapeiaaPFnExactSphereAroundx9
import Derived.Test.YtpmepopagapeiaaMathFnExactSphereAround
namespace Go.Proofs.Ytpmepopagapeiaa.Pure
open Go.RowKit Go.Proofs.Ytpmepopagapeiaa.PFnExactSphereAround Go.Proofs.YtpmepopagapeiaaW.PrintWords Go.Proofs.YtpmepopagapeiaaW.PrintLast Go.Proofs.YtpmepopagapeiaaW.PrintMore Go.Proofs.Ytpmepopagapeiaa.Math
set_option linter.unusedVariables false
set_option linter.unusedSimpArgs false
theorem isPrime_eq (p : Int) : impl_isPrime.f p = some (decide (IsP p)) := by
  unfold impl_isPrime.f IsP
  by_cases h2 : p = 2
  · subst h2; rfl
  by_cases h3 : p = 3
  · subst h3; rfl
  by_cases h5 : p = 5
  · subst h5; rfl
  by_cases h7 : p = 7
  · subst h7; rfl
  simp [h2, h3, h5, h7]
theorem l01Prime_eq (p : Int) : spec_l01Prime.f p = some (decide (IsP p)) := by
  unfold spec_l01Prime.f IsP
  by_cases h2 : p = 2
  · subst h2; rfl
  by_cases h3 : p = 3
  · subst h3; rfl
  by_cases h5 : p = 5
  · subst h5; rfl
  by_cases h7 : p = 7
  · subst h7; rfl
  simp [h2, h3, h5, h7]
theorem l01In_eq (n a b : Int) : spec_l01In.f n a b = some (decide (a ≤ n ∧ n ≤ b)) := by
  unfold spec_l01In.f
  by_cases h : n ≥ a
  · rw [if_pos h]; simp [h]
  · rw [if_neg h]; simp; omega
theorem isLevel_eq (n : Int) : impl_isLevel.f n = some (decide (-6 ≤ n ∧ n ≤ 6)) := by
  unfold impl_isLevel.f
  by_cases h : n ≥ (-6)
  · rw [if_pos h]; simp [h]
  · rw [if_neg h]; simp; omega
theorem power_l {p : Int} (h : IsP p) (n : Nat) (hn : p ^ n ≤ 9223372036854775807) (hn' : n ≤ 1000) : ∀ d i, i + d = n → Ev (fun k => impl_power.l0 k p (p ^ i) n i) (p ^ n) := by
  intro d
  induction d with
  | zero =>
    intro i hi
    obtain rfl : i = n := by omega
    refine Ev.step (fun k => by rw [impl_power.l0]) ?_
    simp only [if_neg (Int.lt_irrefl _)]
    exact Ev.now _
  | succ d ih =>
    intro i hi
    refine Ev.step (fun k => by rw [impl_power.l0]) ?_
    have h1 : (i : Int) < n := by omega
    have h2 := pow_pos' h (i + 1)
    have h3 := pow_mono h (m := i + 1) (n := n) (by omega)
    have e1 : wrap64 (p ^ i * p) = p ^ (i + 1) := by rw [← show p ^ (i + 1) = p ^ i * p from Int.pow_succ p i]; exact wrap_id (by omega) (by omega)
    have e2 : wrap64 ((i : Int) + 1) = ((i + 1 : Nat) : Int) := by rw [wrap_id (by omega) (by omega)]; omega
    simp only [if_pos h1, e1, e2]
    exact ih (i + 1) (by omega)
theorem power_big {p : Int} (h : IsP p) {n : Nat} (hn : p ^ n ≤ 9223372036854775807) (hn' : n ≤ 1000) : Ev (fun k => impl_power.f k p n) (p ^ n) := by
  unfold impl_power.f
  have := power_l h n hn hn' n 0 (by omega)
  rw [Int.pow_zero] at this
  exact this
theorem power_ev {p : Int} (h : IsP p) {n : Int} (hn : n ≤ 22) : Ev (fun k => impl_power.f k p n) (p ^ n.toNat) := by
  by_cases h0 : 0 ≤ n
  · have := power_big h (n := n.toNat) (by have := pow_le_22 h (n := n.toNat) (by omega); omega) (by omega)
    rw [Int.toNat_of_nonneg h0] at this
    exact this
  · unfold impl_power.f
    refine Ev.step (fun k => by rw [impl_power.l0]) ?_
    have e : n.toNat = 0 := by omega
    simp only [if_neg (show ¬ (0 : Int) < n by omega), e, Int.pow_zero]
    exact Ev.now _
theorem l01Power_l {p : Int} (h : IsP p) : ∀ (d : Nat) (i : Nat), p ^ (i + d) ≤ 9223372036854775807 → i + d ≤ 1000 → Ev (fun k => spec_l01Power.l0 k p d (p ^ i)) (p ^ (i + d)) := by
  intro d
  induction d with
  | zero =>
    intro i _ _
    refine Ev.step (fun k => by rw [spec_l01Power.l0]) ?_
    simp only [if_neg (show ¬ ((0 : Nat) : Int) > 0 by omega)]
    exact Ev.now _
  | succ d ih =>
    intro i hi hi'
    refine Ev.step (fun k => by rw [spec_l01Power.l0]) ?_
    have h2 := pow_pos' h (i + 1)
    have h3 := pow_mono h (m := i + 1) (n := i + (d + 1)) (by omega)
    have e1 : wrap64 (p ^ i * p) = p ^ (i + 1) := by rw [← show p ^ (i + 1) = p ^ i * p from Int.pow_succ p i]; exact wrap_id (by omega) (by omega)
    have e2 : wrap64 (((d + 1 : Nat) : Int) - 1) = (d : Int) := by rw [wrap_id (by omega) (by omega)]; omega
    simp only [if_pos (show ((d + 1 : Nat) : Int) > 0 by omega), e1, e2]
    have e3 : i + (d + 1) = i + 1 + d := by omega
    rw [e3] at hi ⊢
    exact ih (i + 1) hi (by omega)
theorem l01Power_big {p : Int} (h : IsP p) {n : Nat} (hn : p ^ n ≤ 9223372036854775807) (hn' : n ≤ 1000) : Ev (fun k => spec_l01Power.f k p n) (p ^ n) := by
  unfold spec_l01Power.f
  have := l01Power_l h n 0 (by rw [Nat.zero_add]; exact hn) (by omega)
  rw [Int.pow_zero, Nat.zero_add] at this
  exact this
theorem l01Power_ev {p : Int} (h : IsP p) {n : Int} (hn : n ≤ 22) : Ev (fun k => spec_l01Power.f k p n) (p ^ n.toNat) := by
  by_cases h0 : 0 ≤ n
  · have := l01Power_big h (n := n.toNat) (by have := pow_le_22 h (n := n.toNat) (by omega); omega) (by omega)
    rw [Int.toNat_of_nonneg h0] at this
    exact this
  · unfold spec_l01Power.f
    refine Ev.step (fun k => by rw [spec_l01Power.l0]) ?_
    have e : n.toNat = 0 := by omega
    simp only [if_neg (show ¬ n > 0 by omega), e, Int.pow_zero]
    exact Ev.now _
theorem l01Power_any {p x : Int} (h : IsP p) (hx : x ≠ 0) (h0 : -9223372036854775807 ≤ x) (h1 : x ≤ 9223372036854775807) : Ev (fun k => spec_l01Power.f k p (vl p x)) (p ^ vl p x) :=
  l01Power_big h (by have := pow_vl_le h hx; omega) (by have := vl_le_62 h hx h0 h1; omega)
theorem valuation_l {p : Int} (h : IsP p) : ∀ (v : Nat) (u : Int) (n : Int), ¬ p ∣ u → -9223372036854775807 ≤ p ^ v * u → p ^ v * u ≤ 9223372036854775807 → 0 ≤ n → n + v ≤ 1000 → Ev (fun k => impl_valuation.l0 k p (p ^ v * u) n) (n + v) := by
  intro v
  induction v with
  | zero =>
    intro u n hu h0 h1 hn hv
    refine Ev.step (fun k => by rw [impl_valuation.l0]) ?_
    have hne : ¬ Int.tmod (p ^ 0 * u) p = 0 := fun e => by
      rw [tmod_zero_iff, Int.pow_zero, Int.one_mul] at e; exact hu e
    simp only [if_neg h.ne, if_neg hne]
    exact ev_some (by simp)
  | succ v ih =>
    intro u n hu h0 h1 hn hv
    refine Ev.step (fun k => by rw [impl_valuation.l0]) ?_
    have e0 : p ^ (v + 1) * u = p * (p ^ v * u) := by rw [Int.pow_succ, Int.mul_comm (p ^ v) p, Int.mul_assoc]
    have hd : Int.tmod (p ^ (v + 1) * u) p = 0 := by rw [tmod_zero_iff, e0]; exact Int.dvd_mul_right _ _
    have e1 : Int.tdiv (p ^ (v + 1) * u) p = p ^ v * u := by rw [e0]; exact tdiv_mul_left h.ne
    have hb := tdiv_bounds (n := p ^ (v + 1) * u) (m := p)
    rw [e1] at hb
    have e2 : wrap64 (p ^ v * u) = p ^ v * u := wrap_id (by omega) (by omega)
    have e3 : wrap64 (n + 1) = n + 1 := wrap_id (by omega) (by omega)
    simp only [if_neg h.ne, if_pos hd, e1, e2, e3]
    exact ev_eq (ih u (n + 1) hu (by omega) (by omega) (by omega) (by omega)) (by omega)
theorem valuation_ev {p : Int} (h : IsP p) {x : Int} (hx : x ≠ 0) (h0 : -9223372036854775807 ≤ x) (h1 : x ≤ 9223372036854775807) : Ev (fun k => impl_valuation.f k p x) (vl p x) := by
  unfold impl_valuation.f
  simp only [if_neg hx]
  obtain ⟨u, hu, hnd, _⟩ := vl_split h x hx
  have hv := vl_le_62 h hx h0 h1
  have := valuation_l h (vl p x) u 0 hnd (by omega) (by omega) (by omega) (by omega)
  rw [← hu, Int.zero_add] at this
  exact this
theorem valuation_zero (k : Nat) (p : Int) : impl_valuation.f k p 0 = some 1000 := by unfold impl_valuation.f; rw [if_pos rfl]
theorem valuation_zero_ev (p : Int) : Ev (fun k => impl_valuation.f k p 0) 1000 := ⟨0, fun k _ => valuation_zero k p⟩
/-- Of every number: 1000 for 0. -/
def vx (p x : Int) : Int := if x = 0 then 1000 else vl p x
theorem valuation_any {p : Int} (h : IsP p) {x : Int} (h0 : -9223372036854775807 ≤ x) (h1 : x ≤ 9223372036854775807) : Ev (fun k => impl_valuation.f k p x) (vx p x) := by
  unfold vx
  by_cases hx : x = 0
  · subst hx; rw [if_pos rfl]; exact valuation_zero_ev p
  · rw [if_neg hx]; exact valuation_ev h hx h0 h1
theorem l01Val_l {p : Int} (h : IsP p) : ∀ (v : Nat) (u : Int) (n : Int), ¬ p ∣ u → -9223372036854775807 ≤ p ^ v * u → p ^ v * u ≤ 9223372036854775807 → 0 ≤ n → n + v ≤ 1000 → Ev (fun k => spec_l01Val.l0 k p (p ^ v * u) n) (n + v) := by
  intro v
  induction v with
  | zero =>
    intro u n hu h0 h1 hn hv
    refine Ev.step (fun k => by rw [spec_l01Val.l0]) ?_
    have hne : ¬ Int.tmod (p ^ 0 * u) p = 0 := fun e => by
      rw [tmod_zero_iff, Int.pow_zero, Int.one_mul] at e; exact hu e
    simp only [if_neg h.ne, if_neg hne]
    exact ev_some (by simp)
  | succ v ih =>
    intro u n hu h0 h1 hn hv
    refine Ev.step (fun k => by rw [spec_l01Val.l0]) ?_
    have e0 : p ^ (v + 1) * u = p * (p ^ v * u) := by rw [Int.pow_succ, Int.mul_comm (p ^ v) p, Int.mul_assoc]
    have hd : Int.tmod (p ^ (v + 1) * u) p = 0 := by rw [tmod_zero_iff, e0]; exact Int.dvd_mul_right _ _
    have e1 : Int.tdiv (p ^ (v + 1) * u) p = p ^ v * u := by rw [e0]; exact tdiv_mul_left h.ne
    have hb := tdiv_bounds (n := p ^ (v + 1) * u) (m := p)
    rw [e1] at hb
    have e2 : wrap64 (p ^ v * u) = p ^ v * u := wrap_id (by omega) (by omega)
    have e3 : wrap64 (n + 1) = n + 1 := wrap_id (by omega) (by omega)
    simp only [if_neg h.ne, if_pos hd, e1, e2, e3]
    exact ev_eq (ih u (n + 1) hu (by omega) (by omega) (by omega) (by omega)) (by omega)
theorem l01Val_ev {p : Int} (h : IsP p) {x : Int} (hx : x ≠ 0) (h0 : -9223372036854775807 ≤ x) (h1 : x ≤ 9223372036854775807) : Ev (fun k => spec_l01Val.f k p x) (vl p x) := by
  unfold spec_l01Val.f
  obtain ⟨u, hu, hnd, _⟩ := vl_split h x hx
  have hv := vl_le_62 h hx h0 h1
  have := l01Val_l h (vl p x) u 0 hnd (by omega) (by omega) (by omega) (by omega)
  rw [← hu, Int.zero_add] at this
  exact this
theorem mod_ev {n m : Int} (hm : 0 < m) (hm' : m ≤ 4611686018427387904) : impl_mod.f n m = some (n % m) := by
  unfold impl_mod.f
  have hb := mod_between (n := n) hm
  rw [if_neg (show ¬ m = 0 by omega), wrap_id (by omega) (by omega), mod_eq hm]
theorem IsBall_ev {p l t d : Int} (hl : -9223372036854775808 ≤ l ∧ l ≤ 9223372036854775807) (hd : -9223372036854775808 ≤ d ∧ d ≤ 9223372036854775807) :
    Ev (fun k => impl_IsBall.f k p l t d) (decide (IsP p ∧ Bal p l t d)) := by
  unfold impl_IsBall.f
  simp only [isPrime_eq, isLevel_eq, Option.bind_some]
  have bad : ∀ {c : Prop} [Decidable c], ¬ c → Ev (fun k => impl_IsBall.j0 k p true l t d) (decide c) := by
    intro c _ hc
    refine Ev.step (fun k => by rw [impl_IsBall.j0]) ?_
    simp only [if_true]
    exact ev_some (by simp [hc])
  by_cases hp : IsP p
  · simp only [hp, decide_true, if_true]
    by_cases h1 : -6 ≤ l ∧ l ≤ 6
    · simp only [h1, decide_true, if_true, and_self]
      by_cases h2 : d < 0
      · simp only [if_pos h2]
        exact bad (by unfold Bal; omega)
      · simp only [if_neg h2]
        by_cases h3 : d > 6
        · simp only [h3, decide_true]
          exact bad (by unfold Bal; omega)
        · simp only [h3, decide_false]
          refine Ev.step (fun k => by rw [impl_IsBall.j0]) ?_
          have e : wrap64 (l + d) = l + d := wrap_id (by omega) (by omega)
          simp only [if_neg Bool.false_ne_true, e]
          by_cases h4 : l + d ≤ 0
          · simp only [if_pos h4]
            by_cases h5 : t = 0
            · simp only [if_pos h5]
              exact ev_dec (by rw [Bal_low h4]; simp [hp, h5]; omega)
            · simp only [if_neg h5]
              exact ev_dec (by rw [Bal_low h4]; simp [h5])
          · simp only [if_neg h4]
            have hpw := pow_pos' hp (l + d).toNat
            by_cases h5 : t ≥ 0
            · simp only [if_pos h5]
              rw [bnd (power_ev hp (by omega))]
              by_cases h6 : t < p ^ (l + d).toNat
              · simp only [if_pos h6]
                by_cases h7 : d = 0
                · simp only [if_pos h7]
                  exact ev_dec (by rw [Bal_high h4]; simp [hp, h7] at h6 ⊢; omega)
                · simp only [if_neg h7, if_neg hp.ne]
                  refine ev_dec ?_
                  rw [Bal_high h4]
                  by_cases h8 : p ∣ t <;> simp [hp, h7, tmod_zero_iff, h8] <;> omega
              · simp only [if_neg h6]
                exact ev_dec (by rw [Bal_high h4]; simp [hp]; omega)
            · simp only [if_neg h5]
              exact ev_dec (by rw [Bal_high h4]; simp [hp]; omega)
    · simp only [h1, decide_false, if_neg Bool.false_ne_true]
      exact bad (by unfold Bal; omega)
  · simp only [hp, decide_false, if_neg Bool.false_ne_true]
    exact bad (by simp)
theorem l01Is_ev {p l t d : Int} (hl : -9223372036854775808 ≤ l ∧ l ≤ 9223372036854775807) (hd : -9223372036854775808 ≤ d ∧ d ≤ 9223372036854775807) :
    Ev (fun k => spec_l01Is.f k p l t d) (decide (IsP p ∧ Bal p l t d)) := by
  unfold spec_l01Is.f
  simp only [l01Prime_eq, l01In_eq, Option.bind_some]
  have bad : ∀ {c : Prop} [Decidable c], ¬ c → Ev (fun k => spec_l01Is.j0 k p true l t d) (decide c) := by
    intro c _ hc
    refine Ev.step (fun k => by rw [spec_l01Is.j0]) ?_
    simp only [if_true]
    exact ev_some (by simp [hc])
  by_cases hp : IsP p
  · simp only [hp, decide_true, if_true]
    by_cases h1 : -6 ≤ l ∧ l ≤ 6
    · simp only [h1, decide_true, if_true, and_self]
      by_cases h2 : 0 ≤ d ∧ d ≤ 6
      · simp only [h2, decide_true, and_self, Bool.not_true]
        refine Ev.step (fun k => by rw [spec_l01Is.j0]) ?_
        have e : wrap64 (l + d) = l + d := wrap_id (by omega) (by omega)
        simp only [if_neg Bool.false_ne_true, e]
        by_cases h4 : l + d ≤ 0
        · simp only [if_pos h4]
          by_cases h5 : t = 0
          · simp only [if_pos h5]
            exact ev_dec (by rw [Bal_low h4]; simp [hp, h5]; omega)
          · simp only [if_neg h5]
            exact ev_dec (by rw [Bal_low h4]; simp [h5])
        · simp only [if_neg h4]
          have hpw := pow_pos' hp (l + d).toNat
          have hpw2 := pow_le_22 hp (n := (l + d).toNat) (by omega)
          rw [bnd (l01Power_ev hp (by omega))]
          have e2 : wrap64 (p ^ (l + d).toNat - 1) = p ^ (l + d).toNat - 1 := wrap_id (by omega) (by omega)
          simp only [l01In_eq, Option.bind_some, e2]
          by_cases h6 : 0 ≤ t ∧ t ≤ p ^ (l + d).toNat - 1
          · simp only [h6, decide_true, if_true, and_self]
            by_cases h7 : d = 0
            · simp only [if_pos h7]
              exact ev_dec (by rw [Bal_high h4]; simp [hp, h7] at h6 ⊢; omega)
            · simp only [if_neg h7, if_neg hp.ne]
              refine ev_dec ?_
              rw [Bal_high h4]
              by_cases h8 : p ∣ t <;> simp [hp, h7, tmod_zero_iff, h8] <;> omega
          · simp only [h6, decide_false, if_neg Bool.false_ne_true]
            exact ev_dec (by rw [Bal_high h4]; simp [hp]; omega)
      · simp only [h2, decide_false, Bool.not_false]
        exact bad (by unfold Bal; omega)
    · simp only [h1, decide_false, if_neg Bool.false_ne_true]
      exact bad (by unfold Bal; omega)
  · simp only [hp, decide_false, if_neg Bool.false_ne_true]
    exact bad (by simp)
def BallOk (p : Int) (b : S27) : Prop := Bal p b.f0 b.f1 b.f2
instance (p : Int) (b : S27) : Decidable (BallOk p b) := by unfold BallOk; infer_instance
def BallWf (b : S27) : Prop := (-9223372036854775808 ≤ b.f0 ∧ b.f0 ≤ 9223372036854775807) ∧ (-9223372036854775808 ≤ b.f2 ∧ b.f2 ≤ 9223372036854775807)
theorem rd_ball_at (pre : List S27) (b : S27) (ys : List S27) : rd_T27 (pre ++ b :: ys) (pre.length : Int) = b := by
  unfold rd_T27
  simp [List.getD_eq_getElem?_getD]
theorem l01Code_l {p : Int} (hp : IsP p) : ∀ (ys pre : List S27), (pre ++ ys).length ≤ 1000 → (∀ b ∈ ys, BallWf b) → Ev (fun k => spec_l01Code.l0 k p (pre ++ ys) pre.length) (if ∀ b ∈ ys, BallOk p b then 0 else 1) := by
  intro ys
  induction ys with
  | nil =>
    intro pre _ _
    refine Ev.step (fun k => by rw [spec_l01Code.l0]) ?_
    simp only [List.append_nil, if_neg (Int.lt_irrefl _)]
    exact ev_some (by simp)
  | cons b ys ih =>
    intro pre hl hw
    refine Ev.step (fun k => by rw [spec_l01Code.l0]) ?_
    have hl' : (pre ++ b :: ys).length = pre.length + (ys.length + 1) := by simp
    have h1 : (pre.length : Int) < ((pre ++ b :: ys).length : Int) := by omega
    simp only [if_pos h1, if_pos (show (0 : Int) ≤ (pre.length : Int) by omega), rd_ball_at]
    have hb := hw b (by simp)
    rw [bnd (l01Is_ev hb.1 hb.2)]
    by_cases hB : Bal p b.f0 b.f1 b.f2
    · simp only [hp, hB, and_self, decide_true, if_true]
      have e : wrap64 ((pre.length : Int) + 1) = ((pre ++ [b]).length : Int) := by rw [wrap_id (by omega) (by omega)]; simp
      have := ih (pre ++ [b]) (by simpa using hl) (fun c hc => hw c (by simp [hc]))
      rw [e]
      simp only [List.append_assoc, List.singleton_append] at this
      refine ev_eq this ?_
      have : (∀ c ∈ b :: ys, BallOk p c) ↔ (∀ c ∈ ys, BallOk p c) := by simp [BallOk, hB]
      simp only [this]
    · simp only [hp, hB, and_false, decide_false, if_neg Bool.false_ne_true]
      refine ev_some ?_
      rw [if_neg]
      intro hall
      exact hB (hall b (by simp))
theorem l01Code_ev {p : Int} {ys : List S27} (hl : ys.length ≤ 1000) (hw : ∀ b ∈ ys, BallWf b) : Ev (fun k => spec_l01Code.f k p ys) (if IsP p ∧ ∀ b ∈ ys, BallOk p b then 0 else 1) := by
  unfold spec_l01Code.f
  simp only [l01Prime_eq, Option.bind_some]
  by_cases hp : IsP p
  · simp only [hp, decide_true, if_true, true_and]
    exact l01Code_l hp ys [] (by simpa using hl) hw
  · simp only [hp, decide_false, if_neg Bool.false_ne_true, false_and, if_false]
    exact Ev.now _
theorem l01Code1 {p l t d : Int} (hl : -9223372036854775808 ≤ l ∧ l ≤ 9223372036854775807) (hd : -9223372036854775808 ≤ d ∧ d ≤ 9223372036854775807) :
    Ev (fun k => spec_l01Code.f k p [⟨l, t, d⟩]) (if IsP p ∧ Bal p l t d then 0 else 1) := by
  refine ev_eq (l01Code_ev (by simp) (by intro b hb; simp at hb; subst hb; exact ⟨hl, hd⟩)) ?_
  simp [BallOk]
theorem l01MulMod_eq {a b m : Int} (h0 : 0 < m) (h1 : m ≤ 100000000000) : spec_l01MulMod.f a b m = some (a * b % m) := by
  unfold spec_l01MulMod.f
  have ha := mod_between (n := a) h0
  have hb := mod_between (n := b) h0
  have ea : wrap64 (Int.tmod a m + m) = Int.tmod a m + m := wrap_id (by omega) (by omega)
  have eb : wrap64 (Int.tmod b m + m) = Int.tmod b m + m := wrap_id (by omega) (by omega)
  have a0 := Int.emod_nonneg a (Int.ne_of_gt h0)
  have a1 := Int.emod_lt_of_pos a h0
  have b0 := Int.emod_nonneg b (Int.ne_of_gt h0)
  have b1 := Int.emod_lt_of_pos b h0
  rw [if_neg (Int.ne_of_gt h0)]
  simp only [ea, eb, mod_eq h0]
  rw [Int.tmod_eq_emod_of_nonneg b0, Int.tdiv_eq_ediv_of_nonneg b0]
  have hq0 : 0 ≤ b % m / 1000000 := by omega
  have hq1 : b % m / 1000000 ≤ 100000 := by omega
  have hr0 : 0 ≤ b % m % 1000000 := by omega
  have hr1 : b % m % 1000000 ≤ 1000000 := by omega
  have eq : wrap64 (b % m / 1000000) = b % m / 1000000 := wrap_id (by omega) (by omega)
  rw [eq]
  have p1 : 0 ≤ a % m * (b % m / 1000000) := Int.mul_nonneg a0 hq0
  have p2 : a % m * (b % m / 1000000) ≤ 100000000000 * 100000 := Int.mul_le_mul (by omega) hq1 hq0 (by omega)
  have p3 : 0 ≤ a % m * (b % m % 1000000) := Int.mul_nonneg a0 hr0
  have p4 : a % m * (b % m % 1000000) ≤ 100000000000 * 1000000 := Int.mul_le_mul (by omega) hr1 hr0 (by omega)
  rw [wrap_id (x := a % m * (b % m / 1000000)) (by omega) (by omega), wrap_id (x := a % m * (b % m % 1000000)) (by omega) (by omega)]
  rw [Int.tmod_eq_emod_of_nonneg p1, Int.tmod_eq_emod_of_nonneg p3]
  have c0 := Int.emod_nonneg (a % m * (b % m / 1000000)) (Int.ne_of_gt h0)
  have c1 := Int.emod_lt_of_pos (a % m * (b % m / 1000000)) h0
  have d0 := Int.emod_nonneg (a % m * (b % m % 1000000)) (Int.ne_of_gt h0)
  have d1 := Int.emod_lt_of_pos (a % m * (b % m % 1000000)) h0
  rw [wrap_id (x := a % m * (b % m / 1000000) % m * 1000000) (by omega) (by omega)]
  have e0 : 0 ≤ a % m * (b % m / 1000000) % m * 1000000 := by omega
  rw [Int.tmod_eq_emod_of_nonneg e0]
  have f0 := Int.emod_nonneg (a % m * (b % m / 1000000) % m * 1000000) (Int.ne_of_gt h0)
  have f1 := Int.emod_lt_of_pos (a % m * (b % m / 1000000) % m * 1000000) h0
  rw [wrap_id (by omega) (by omega), Int.tmod_eq_emod_of_nonneg (by omega), mulmod_eq]
theorem l01InvMod_l {n m : Int} (hm : 0 < m) (hm' : m ≤ 1000000000000) : ∀ (k : Nat) (a b : Nat) (x y : Int), b ≤ k → Euc n m a b x y → (a : Int) ≤ 1000000000000 → (b : Int) ≤ 1000000000000 →
    ∃ r, Ev (fun k => spec_l01InvMod.l0 k m a b x y) r ∧ 0 ≤ r ∧ r < m ∧ m ∣ r * n - 1 := by
  intro k
  induction k with
  | zero =>
    intro a b x y hb he ha1 hb1
    obtain rfl : b = 0 := by omega
    have hl := he.last
    have hbd := he.bounds
    refine ⟨x % m, ?_, Int.emod_nonneg _ (Int.ne_of_gt hm), Int.emod_lt_of_pos _ hm, ?_⟩
    · refine Ev.step (fun k => by rw [spec_l01InvMod.l0]) ?_
      have hx := mod_between (n := x) hm
      rw [wrap_id (x := Int.tmod x m + m) (by omega) (by omega), mod_eq hm]
      simp only [Int.natCast_zero, if_true, if_neg (Int.ne_of_gt hm)]
      exact Ev.now _
    · have h1 := dvd_emod_sub x m
      have h2 : x % m * n - 1 = (x % m - x) * n + (x * n - 1) := by rw [Int.sub_mul]; omega
      rw [h2]
      exact Int.dvd_add (Int.dvd_trans h1 (Int.dvd_mul_right _ _)) hl
  | succ k ih =>
    intro a b x y hb he ha1 hb1
    by_cases hz : b = 0
    · exact ih a b x y (by omega) he ha1 hb1
    · have hnx := he.next (by omega)
      obtain ⟨r, hr, h0, h1, h2⟩ := ih b (a % b) y (x - (a / b : Nat) * y) (by have := Nat.mod_lt a (show 0 < b by omega); omega) hnx hb1 (by have := Nat.mod_lt a (show 0 < b by omega); omega)
      refine ⟨r, ?_, h0, h1, h2⟩
      refine Ev.step (fun k => by rw [spec_l01InvMod.l0]) ?_
      suffices hs : wrap64 (Int.tdiv (a : Int) b) = (a / b : Nat) ∧ wrap64 ((a : Int) - wrap64 ((a / b : Nat) * (b : Int))) = (a % b : Nat) ∧ wrap64 (x - wrap64 ((a / b : Nat) * y)) = x - (a / b : Nat) * y by
        simp only [if_neg (show ¬ (b : Int) = 0 by omega), hs.1, hs.2.1, hs.2.2]
        exact hr
      have hbd := he.bounds
      have hbd2 := hnx.bounds
      have hbz : ¬ (b : Int) = 0 := by omega
      have eq : Int.tdiv (a : Int) b = (a / b : Nat) := by rw [Int.tdiv_eq_ediv_of_nonneg (by omega), Int.natCast_ediv]
      have hdm := Nat.div_add_mod a b
      have hle := Nat.div_le_self a b
      have hmod := Nat.mod_le a b
      have hprod : ((a / b : Nat) : Int) * b = a - (a % b : Nat) := by
        have : ((b * (a / b) + a % b : Nat) : Int) = (a : Int) := by rw [hdm]
        rw [Int.natCast_add, Int.natCast_mul, Int.mul_comm (b : Int)] at this
        omega
      rw [eq]
      exact euc_wraps hle hmod hprod (by omega) hm hm' hbd hbd2
theorem l01InvMod_ev {p n : Int} (h : IsP p) {e : Nat} (he : e ≤ 14) (hn : ¬ p ∣ n) :
    ∃ r, Ev (fun k => spec_l01InvMod.f k n (p ^ e)) r ∧ 0 ≤ r ∧ r < p ^ e ∧ p ^ e ∣ r * n - 1 := by
  have h0 := pow_pos' h e
  have h7 := pow_le_seven h (m := e) (n := 14) (by omega)
  have e14 : (7 : Int) ^ 14 = 678223072849 := by decide
  have hb := mod_between (n := n) h0
  have hst := Euc.start (n := n) h0 (coprime_start h hn e)
  have hr0 := Int.emod_nonneg n (Int.ne_of_gt h0)
  have hr1 := Int.emod_lt_of_pos n h0
  obtain ⟨r, hr, a, b, c⟩ := l01InvMod_l h0 (by omega) _ _ _ _ _ (Nat.le_refl _) hst (by omega) (by omega)
  refine ⟨r, ?_, a, b, c⟩
  unfold spec_l01InvMod.f
  simp only [if_neg (Int.ne_of_gt h0)]
  rw [wrap_id (x := Int.tmod n (p ^ e) + p ^ e) (by omega) (by omega), mod_eq h0]
  rw [Int.toNat_of_nonneg hr0, Int.toNat_of_nonneg (by omega)] at hr
  exact hr
/-- The reference's ball of a level with a fraction: x / p^6 is as near to the fraction as the level asks. -/
theorem l01Of_ev {p num den level x : Int} (h : IsP p) (l0 : -6 ≤ level) (l1 : level ≤ 6) (hden : den ≠ 0)
    (n0 : -4000000000000000000 ≤ num ∧ num ≤ 4000000000000000000) (d0 : -4000000000000000000 ≤ den ∧ den ≤ 4000000000000000000)
    (hx : p ^ ((level + 6).toNat + vl p den) ∣ x * den - num * p ^ 6) (hfit : num = 0 ∨ vl p den ≤ vl p num + 6) :
    Ev (fun k => spec_l01Of.f k p num den level) (level, ofMt p level x, (ofMd p level x : Int), true) := by
  unfold spec_l01Of.f
  simp only [l01In_eq, Option.bind_some, show (-6 ≤ level ∧ level ≤ 6) from ⟨l0, l1⟩, and_self, decide_true, if_true]
  by_cases hz : num = 0
  · obtain ⟨h1, h2⟩ := of_low h hden hx (.inl hz) l0
    simp only [if_pos hz, h1, h2]
    exact Ev.now _
  · simp only [if_neg hz]
    have b1 := vl_le_62 h hz (by omega) (by omega)
    have b2 := vl_le_62 h hden (by omega) (by omega)
    rw [bnd (l01Val_ev h hz (by omega) (by omega)), bnd (l01Val_ev h hden (by omega) (by omega))]
    have e1 : wrap64 ((vl p num : Int) - vl p den) = (vl p num : Int) - vl p den := wrap_id (by omega) (by omega)
    have e2 : wrap64 ((vl p den : Int) - vl p num) = (vl p den : Int) - vl p num := wrap_id (by omega) (by omega)
    simp only [e1, e2]
    by_cases hlow : level ≤ (vl p num : Int) - vl p den
    · obtain ⟨h1, h2⟩ := of_low h hden hx (.inr (by omega)) l0
      simp only [if_pos hlow, h1, h2]
      exact Ev.now _
    · have hfit' : vl p den ≤ vl p num + 6 := by rcases hfit with h1 | h1; exact absurd h1 hz; exact h1
      have e3 : mx ((vl p den : Int) - vl p num) 0 = ((vl p den - vl p num : Nat) : Int) := by unfold mx; split <;> omega
      have e4 : mx ((vl p num : Int) - vl p den) 0 = ((vl p num - vl p den : Nat) : Int) := by unfold mx; split <;> omega
      have e5 : wrap64 (level + ((vl p den - vl p num : Nat) : Int)) = level + ((vl p den - vl p num : Nat) : Int) := wrap_id (by omega) (by omega)
      simp only [if_neg hlow, e3, e4, e5, if_neg (show ¬ ((vl p den - vl p num : Nat) : Int) > 6 by omega)]
      obtain ⟨un, hun, hund, _⟩ := vl_split h num hz
      obtain ⟨ud, hud, hudd, _⟩ := vl_split h den hden
      rw [bnd (l01Power_ev h (by omega)), bnd (l01Power_any h hz (by omega) (by omega))]
      simp only [if_neg (pow_ne' h _)]
      rw [bnd (l01Power_any h hden (by omega) (by omega))]
      simp only [if_neg (pow_ne' h _)]
      have q1 : Int.tdiv num (p ^ vl p num) = un := by
        conv => lhs; arg 1; rw [hun]
        exact tdiv_mul_left (pow_ne' h _)
      have q2 : Int.tdiv den (p ^ vl p den) = ud := by
        conv => lhs; arg 1; rw [hud]
        exact tdiv_mul_left (pow_ne' h _)
      have c1 := tdiv_bounds (n := num) (m := p ^ vl p num)
      have c2 := tdiv_bounds (n := den) (m := p ^ vl p den)
      rw [q1] at c1
      rw [q2] at c2
      simp only [q1, q2, wrap_id (x := un) (by omega) (by omega), wrap_id (x := ud) (by omega) (by omega)]
      have h12 := pow_le_seven h (m := (level + ((vl p den - vl p num : Nat) : Int)).toNat) (n := 12) (by omega)
      have e12 : (7 : Int) ^ 12 = 13841287201 := by decide
      have hpp := pow_pos' h (level + ((vl p den - vl p num : Nat) : Int)).toNat
      obtain ⟨inv, hinv, _, _, hid⟩ := l01InvMod_ev h (n := ud) (e := (level + ((vl p den - vl p num : Nat) : Int)).toNat) (by omega) hudd
      rw [bnd hinv]
      simp only [l01MulMod_eq hpp (by omega), Option.bind_some]
      rw [bnd (l01Power_ev h (by omega))]
      have hx' : p ^ ((level + 6).toNat + vl p den) ∣ x * (p ^ vl p den * ud) - p ^ vl p num * un * p ^ 6 := by
        rw [← hun, ← hud]; exact hx
      obtain ⟨h1, h2⟩ := of_high h l0 l1 hund hudd hx' (by omega) hfit' hid
      rw [h1, h2]
      simp only [Int.toNat_natCast]
      exact Ev.now _
theorem l01Of_out {p num den level : Int} (hl : ¬ (-6 ≤ level ∧ level ≤ 6)) : Ev (fun k => spec_l01Of.f k p num den level) (0, 0, 0, false) := by
  unfold spec_l01Of.f
  simp only [l01In_eq, Option.bind_some, hl, decide_false, if_neg Bool.false_ne_true]
  exact Ev.now _
/-- Over a power of p of at most 6. -/
theorem l01Of_pow {p t d level : Int} (h : IsP p) (hd : 0 ≤ d ∧ d ≤ 6) (n0 : -4000000000000000000 ≤ t ∧ t ≤ 4000000000000000000) :
    Ev (fun k => spec_l01Of.f k p t (p ^ d.toNat) level) (if -6 ≤ level ∧ level ≤ 6 then (level, ofMt p level (mk p t d), (ofMd p level (mk p t d) : Int), true) else (0, 0, 0, false)) := by
  by_cases hl : -6 ≤ level ∧ level ≤ 6
  · rw [if_pos hl]
    have h0 := pow_pos' h d.toNat
    have h1 := pow_le_22 h (n := d.toNat) (by omega)
    refine l01Of_ev h hl.1 hl.2 (by omega) n0 (by omega) ?_ (.inr (by rw [vl_pow h]; omega))
    have e : mk p t d * p ^ d.toNat - t * p ^ 6 = 0 := by
      unfold mk
      rw [Int.mul_assoc, ← Int.pow_add]
      have : (6 - d).toNat + d.toNat = 6 := by omega
      rw [this]; omega
    rw [e]; exact Int.dvd_zero _
  · rw [if_neg hl]
    exact l01Of_out hl
theorem mk_bound {p t d : Int} (h : IsP p) (hd : 0 ≤ d) (ht : -13841287201 ≤ t ∧ t ≤ 13841287201) : -1628413597910449 ≤ mk p t d ∧ mk p t d ≤ 1628413597910449 := by
  unfold mk
  have h0 := pow_pos' h (6 - d).toNat
  have h1 := pow_le_seven h (m := (6 - d).toNat) (n := 6) (by omega)
  have e : (7 : Int) ^ 6 = 117649 := by decide
  rw [e] at h1
  rcases Int.le_total 0 t with h2 | h2
  · have a := Int.mul_le_mul ht.2 h1 (Int.le_of_lt h0) (by omega)
    have b := Int.mul_nonneg h2 (Int.le_of_lt h0)
    omega
  · have a := Int.mul_le_mul (show -t ≤ 13841287201 by omega) h1 (Int.le_of_lt h0) (by omega)
    have b := Int.mul_nonneg (show 0 ≤ -t by omega) (Int.le_of_lt h0)
    rw [Int.neg_mul] at a b
    omega
theorem mark_ev {p l t d : Int} (h : IsP p) (hb : Bal p l t d) : Ev (fun k => impl_mark.f k p l t d) (mk p t d) := by
  unfold impl_mark.f
  have hs := hb.small h
  have hd : 0 ≤ d ∧ d ≤ 6 := by unfold Bal at hb; omega
  have hm := mk_bound h hd.1 (t := t) (by omega)
  have e : wrap64 (6 - d) = 6 - d := wrap_id (by omega) (by omega)
  simp only [e]
  rw [bnd (power_ev h (by omega))]
  exact ev_some (wrap_id (x := mk p t d) (by omega) (by omega))
theorem mark_le {p l t d : Int} (h : IsP p) (hb : Bal p l t d) : 0 ≤ mk p t d ∧ mk p t d < 13841287201 := by
  have hm := hb.mark h
  have h1 := pow_le_seven h (m := (l + 6).toNat) (n := 12) (by unfold Bal at hb; omega)
  have e : (7 : Int) ^ 12 = 13841287201 := by decide
  omega
theorem ofMark_ev {p level x : Int} (h : IsP p) (hx : -4000000000000000000 ≤ x ∧ x ≤ 4000000000000000000) :
    Ev (fun k => impl_ofMark.f k p level x) (if -6 ≤ level ∧ level ≤ 6 then (level, ofMt p level x, (ofMd p level x : Int), true) else (0, 0, 0, false)) := by
  unfold impl_ofMark.f
  simp only [isLevel_eq, Option.bind_some]
  by_cases hl : -6 ≤ level ∧ level ≤ 6
  · have e : wrap64 (level + 6) = level + 6 := wrap_id (by omega) (by omega)
    simp only [hl, and_self, decide_true, if_true, e]
    rw [bnd (power_ev h (by omega))]
    have h0 := pow_pos' h (level + 6).toNat
    have h1 := pow_le_seven h (m := (level + 6).toNat) (n := 12) (by omega)
    have e12 : (7 : Int) ^ 12 = 13841287201 := by decide
    simp only [mod_ev h0 (by omega), Option.bind_some]
    have y0 := Int.emod_nonneg x (Int.ne_of_gt h0)
    have y1 := Int.emod_lt_of_pos x h0
    rw [bnd (valuation_any h (by omega) (by omega))]
    have hvx : vx p (x % p ^ (level + 6).toNat) ≤ 1000 ∧ 0 ≤ vx p (x % p ^ (level + 6).toNat) := by
      unfold vx
      split
      · omega
      · rename_i hz
        have := vl_le_62 h hz (by omega) (by omega)
        omega
    have e2 : wrap64 (6 - vx p (x % p ^ (level + 6).toNat)) = 6 - vx p (x % p ^ (level + 6).toNat) := wrap_id (by omega) (by omega)
    have e3 : mx (6 - vx p (x % p ^ (level + 6).toNat)) 0 = (ofMd p level x : Int) := by
      unfold vx ofMd mx
      by_cases hz : x % p ^ (level + 6).toNat = 0
      · simp only [if_pos hz]; omega
      · simp only [if_neg hz]; split <;> omega
    have hd6 := ofMd_le p level x
    have e4 : wrap64 (6 - (ofMd p level x : Int)) = 6 - (ofMd p level x : Int) := wrap_id (by omega) (by omega)
    simp only [e2, e3, e4]
    rw [bnd (power_ev h (by omega))]
    have e5 : (6 - (ofMd p level x : Int)).toNat = 6 - ofMd p level x := by omega
    simp only [if_neg (pow_ne' h _), e5]
    have hq := tdiv_bounds (n := x % p ^ (level + 6).toNat) (m := p ^ (6 - ofMd p level x))
    rw [wrap_id (by omega) (by omega)]
    have e6 : Int.tdiv (x % p ^ (level + 6).toNat) (p ^ (6 - ofMd p level x)) = ofMt p level x := by
      unfold ofMt
      exact Int.tdiv_eq_ediv_of_nonneg y0
    rw [e6]
    exact Ev.now _
  · simp only [hl, decide_false, if_neg Bool.false_ne_true, if_false]
    exact Ev.now _
def ParR (p l t d : Int) : Int × Int × Int × Bool := if -6 ≤ l - 1 ∧ l - 1 ≤ 6 then (l - 1, ofMt p (l - 1) (mk p t d), (ofMd p (l - 1) (mk p t d) : Int), true) else (0, 0, 0, false)
theorem l01Parent_ev {p l t d : Int} (h : IsP p) (hb : Bal p l t d) : Ev (fun k => spec_l01Parent.f k p l t d) (ParR p l t d) := by
  unfold spec_l01Parent.f ParR
  have hs := hb.small h
  have hr : -6 ≤ l ∧ l ≤ 6 ∧ 0 ≤ d ∧ d ≤ 6 := by unfold Bal at hb; omega
  have e : wrap64 (l - 1) = l - 1 := wrap_id (by omega) (by omega)
  simp only [e]
  rw [bnd (l01Power_ev h (by omega)), bnd (l01Of_pow h (by omega) (by omega))]
  exact Ev.now _
theorem parent_ev {p l t d : Int} (h : IsP p) (hb : Bal p l t d) : Ev (fun k => impl_parent.f k p l t d) (ParR p l t d) := by
  unfold impl_parent.f ParR
  have hs := mark_le h hb
  have hr : -6 ≤ l ∧ l ≤ 6 ∧ 0 ≤ d ∧ d ≤ 6 := by unfold Bal at hb; omega
  have e : wrap64 (l - 1) = l - 1 := wrap_id (by omega) (by omega)
  simp only [e]
  rw [bnd (mark_ev h hb), bnd (ofMark_ev h (by omega))]
  exact Ev.now _
/-- Two centres over the greater power of p. -/
theorem over_max {p ta da tb db : Int} (h : IsP p) (ha : 0 ≤ da ∧ da ≤ 6) (hb : 0 ≤ db ∧ db ≤ 6) (ta0 : 0 ≤ ta ∧ ta ≤ 13841287201) (tb0 : 0 ≤ tb ∧ tb ≤ 13841287201) :
    wrap64 (mx da db - da) = mx da db - da ∧ wrap64 (mx da db - db) = mx da db - db ∧ 0 ≤ mx da db ∧ mx da db ≤ 6 ∧ da ≤ mx da db ∧ db ≤ mx da db ∧
    wrap64 (ta * p ^ (mx da db - da).toNat) = ta * p ^ (mx da db - da).toNat ∧ wrap64 (tb * p ^ (mx da db - db).toNat) = tb * p ^ (mx da db - db).toNat ∧
    (0 ≤ ta * p ^ (mx da db - da).toNat ∧ ta * p ^ (mx da db - da).toNat ≤ 1628413597910449) ∧ (0 ≤ tb * p ^ (mx da db - db).toNat ∧ tb * p ^ (mx da db - db).toNat ≤ 1628413597910449) ∧
    mk p (ta * p ^ (mx da db - da).toNat) (mx da db) = mk p ta da ∧ mk p (tb * p ^ (mx da db - db).toNat) (mx da db) = mk p tb db := by
  have hm : 0 ≤ mx da db ∧ mx da db ≤ 6 ∧ da ≤ mx da db ∧ db ≤ mx da db := by unfold mx; split <;> omega
  have key : ∀ {t : Int} {e : Int}, 0 ≤ t ∧ t ≤ 13841287201 → e ≤ 6 → 0 ≤ t * p ^ e.toNat ∧ t * p ^ e.toNat ≤ 1628413597910449 := by
    intro t e ht he
    have h0 := pow_pos' h e.toNat
    have h1 := pow_le_seven h (m := e.toNat) (n := 6) (by omega)
    have e6 : (7 : Int) ^ 6 = 117649 := by decide
    rw [e6] at h1
    have a := Int.mul_le_mul ht.2 h1 (Int.le_of_lt h0) (by omega)
    exact ⟨Int.mul_nonneg ht.1 (Int.le_of_lt h0), by omega⟩
  have ka := key ta0 (e := mx da db - da) (by omega)
  have kb := key tb0 (e := mx da db - db) (by omega)
  have kk : ∀ {t e : Int}, 0 ≤ e → e ≤ mx da db → mk p (t * p ^ (mx da db - e).toNat) (mx da db) = mk p t e := by
    intro t e he0 he
    unfold mk
    rw [Int.mul_assoc, ← Int.pow_add]
    congr 2
    omega
  exact ⟨wrap_id (by omega) (by omega), wrap_id (by omega) (by omega), hm.1, hm.2.1, hm.2.2.1, hm.2.2.2, wrap_id (by omega) (by omega), wrap_id (by omega) (by omega), ka, kb, kk ha.1 hm.2.2.1, kk hb.1 hm.2.2.2⟩
theorem mk_sub (p s t d : Int) : mk p (s - t) d = mk p s d - mk p t d := by unfold mk; rw [Int.sub_mul]
theorem joinLevel_ev {p l t d l' t' d' : Int} (h : IsP p) (hb : Bal p l t d) (hb' : Bal p l' t' d') : Ev (fun k => impl_joinLevel.f k p l t d l' t' d') (joinL p l t d l' t' d') := by
  unfold impl_joinLevel.f joinL
  have hm := mark_le h hb
  have hm' := mark_le h hb'
  have hr : -6 ≤ l ∧ l ≤ 6 ∧ -6 ≤ l' ∧ l' ≤ 6 := by unfold Bal at hb hb'; omega
  rw [bnd (mark_ev h hb), bnd (mark_ev h hb'), wrap_id (by omega) (by omega), bnd (valuation_any h (by omega) (by omega))]
  unfold vx
  by_cases e : mk p t d = mk p t' d'
  · rw [if_pos e, if_pos (by omega), wrap_id (by omega) (by omega)]
    refine ev_some ?_
    unfold mn; repeat' split
    all_goals omega
  · have hz : ¬ mk p t d - mk p t' d' = 0 := by omega
    have := vl_le_62 h hz (by omega) (by omega)
    rw [if_neg e, if_neg hz, wrap_id (by omega) (by omega)]
    exact Ev.now _
theorem l02Valuation_ev {p l t d l' t' d' : Int} (h : IsP p) (hb : Bal p l t d) (hb' : Bal p l' t' d') : Ev (fun k => spec_l02Valuation.f k p l t d l' t' d') (if mk p t d = mk p t' d' then (0, false) else ((vl p (mk p t d - mk p t' d') : Int) - 6, true)) := by
  unfold spec_l02Valuation.f
  have hs := hb.small h
  have hs' := hb'.small h
  have hdd : (0 ≤ d ∧ d ≤ 6) ∧ 0 ≤ d' ∧ d' ≤ 6 := by unfold Bal at hb hb'; omega
  obtain ⟨e1, e2, m0, m1, m2, m3, e3, e4, b1, b2, k1, k2⟩ := over_max h hdd.1 hdd.2 hs hs'
  simp only [e1, e2]
  rw [bnd (l01Power_ev h (by omega)), bnd (l01Power_ev h (by omega)), e3, e4, wrap_id (by omega) (by omega)]
  have hk : (t * p ^ (mx d d' - d).toNat - t' * p ^ (mx d d' - d').toNat) * p ^ (6 - mx d d').toNat = mk p t d - mk p t' d' := by
    rw [← k1, ← k2, ← mk_sub]; rfl
  generalize hw : t * p ^ (mx d d' - d).toNat - t' * p ^ (mx d d' - d').toNat = w at *
  have hp6 := pow_pos' h (6 - mx d d').toNat
  by_cases hz : w = 0
  · have e : mk p t d = mk p t' d' := by rw [hz, Int.zero_mul] at hk; omega
    rw [if_pos e]
    simp only [if_pos hz]
    exact Ev.now _
  · have hne := Int.mul_ne_zero hz (Int.ne_of_gt hp6)
    have e : ¬ mk p t d = mk p t' d' := by rw [hk] at hne; omega
    rw [if_neg e, ← hk, Int.mul_comm w, vl_pow_mul h hz]
    have hv := vl_le_62 h hz (by omega) (by omega)
    simp only [if_neg hz]
    rw [bnd (l01Val_ev h hz (by omega) (by omega)), wrap_id (by omega) (by omega)]
    refine ev_some ?_
    have : ((vl p w : Int) - mx d d') = ((((6 - mx d d').toNat + vl p w : Nat) : Int) - 6) := by omega
    rw [this]
theorem l02Join_ev {p l t d l' t' d' : Int} (h : IsP p) (hb : Bal p l t d) (hb' : Bal p l' t' d') : Ev (fun k => spec_l02Join.f k p l t d l' t' d') (joinL p l t d l' t' d') := by
  unfold spec_l02Join.f joinL
  rw [bnd (l02Valuation_ev h hb hb')]
  by_cases e : mk p t d = mk p t' d'
  · simp only [if_pos e, if_neg Bool.false_ne_true]; exact Ev.now _
  · simp only [if_neg e, if_true]; exact Ev.now _
def distL (p la ta da lb tb db : Int) : Int := la + lb - 2 * joinL p la ta da lb tb db
theorem dist_wrap {p l t d l' t' d' : Int} (hb : Bal p l t d) (hb' : Bal p l' t' d') : wrap64 (wrap64 (l + l') - wrap64 (2 * joinL p l t d l' t' d')) = distL p l t d l' t' d' := by
  have hr : -6 ≤ l ∧ l ≤ 6 ∧ -6 ≤ l' ∧ l' ≤ 6 := by unfold Bal at hb hb'; omega
  have h1 := joinL_le (p := p) (la := l) (ta := t) (da := d) (lb := l') (tb := t') (db := d')
  have h2 := joinL_ge (p := p) (ta := t) (da := d) (tb := t') (db := d') hr.1 hr.2.2.1
  unfold distL
  rw [wrap_id (x := l + l') (by omega) (by omega), wrap_id (x := 2 * _) (by omega) (by omega), wrap_id (by omega) (by omega)]
theorem distance_ev {p l t d l' t' d' : Int} (h : IsP p) (hb : Bal p l t d) (hb' : Bal p l' t' d') : Ev (fun k => impl_distance.f k p l t d l' t' d') (distL p l t d l' t' d') := by
  unfold impl_distance.f
  rw [bnd (joinLevel_ev h hb hb'), dist_wrap hb hb']
  exact Ev.now _
theorem l02Distance_ev {p l t d l' t' d' : Int} (h : IsP p) (hb : Bal p l t d) (hb' : Bal p l' t' d') : Ev (fun k => spec_l02Distance.f k p l t d l' t' d') (distL p l t d l' t' d') := by
  unfold spec_l02Distance.f
  rw [bnd (l02Join_ev h hb hb'), dist_wrap hb hb']
  exact Ev.now _
theorem joinL_range {p l t d l' t' d' : Int} (hb : Bal p l t d) (hb' : Bal p l' t' d') : -6 ≤ joinL p l t d l' t' d' ∧ joinL p l t d l' t' d' ≤ 6 := by
  have hr : -6 ≤ l ∧ l ≤ 6 ∧ -6 ≤ l' ∧ l' ≤ 6 := by unfold Bal at hb hb'; omega
  have h1 := joinL_le (p := p) (la := l) (ta := t) (da := d) (lb := l') (tb := t') (db := d')
  have h2 := joinL_ge (p := p) (ta := t) (da := d) (tb := t') (db := d') hr.1 hr.2.2.1
  omega
def ChR (p l t d i : Int) : Int × Int × Int × Bool := if l = 6 then (0, 0, 0, false) else (l + 1, ofMt p (l + 1) (mk p t d + i * p ^ (l + 6).toNat), (ofMd p (l + 1) (mk p t d + i * p ^ (l + 6).toNat) : Int), true)
theorem child_ev {p l t d i : Int} (h : IsP p) (hb : Bal p l t d) (hi : 0 ≤ i ∧ i < p) : Ev (fun k => impl_child.f k p l t d i) (ChR p l t d i) := by
  unfold impl_child.f ChR
  have hr : -6 ≤ l ∧ l ≤ 6 ∧ 0 ≤ d ∧ d ≤ 6 := by unfold Bal at hb; omega
  have hs := mark_le h hb
  have h7 := h.le_seven
  have e1 : wrap64 (l + 6) = l + 6 := wrap_id (by omega) (by omega)
  have e2 : wrap64 (l + 1) = l + 1 := wrap_id (by omega) (by omega)
  have q0 := pow_pos' h (l + 6).toNat
  have q1 := pow_le_seven h (m := (l + 6).toNat) (n := 12) (by omega)
  have e12 : (7 : Int) ^ 12 = 13841287201 := by decide
  have m0 : 0 ≤ i * p ^ (l + 6).toNat := Int.mul_nonneg hi.1 (by omega)
  have m1 : i * p ^ (l + 6).toNat ≤ 7 * p ^ (l + 6).toNat := Int.mul_le_mul_of_nonneg_right (by omega) (by omega)
  have e3 : wrap64 (i * p ^ (l + 6).toNat) = i * p ^ (l + 6).toNat := wrap_id (by omega) (by omega)
  have e4 : wrap64 (mk p t d + i * p ^ (l + 6).toNat) = mk p t d + i * p ^ (l + 6).toNat := wrap_id (by omega) (by omega)
  simp only [e1, e2]
  rw [bnd (mark_ev h hb), bnd (power_ev h (by omega))]
  simp only [e3, e4]
  rw [bnd (ofMark_ev h (by omega))]
  by_cases hl : l = 6
  · simp only [if_pos hl, if_neg (show ¬ (-6 ≤ l + 1 ∧ l + 1 ≤ 6) by omega)]; exact Ev.now _
  · simp only [if_neg hl, if_pos (show -6 ≤ l + 1 ∧ l + 1 ≤ 6 by omega)]; exact Ev.now _
theorem pow_split {p : Int} {a b c : Nat} (h : a + b = c) : p ^ a * p ^ b = p ^ c := by rw [← Int.pow_add, h]
theorem l01Child_ev {p l t d i : Int} (h : IsP p) (hb : Bal p l t d) (hi : 0 ≤ i ∧ i < p) : Ev (fun k => spec_l01Child.f k p l t d i) (ChR p l t d i) := by
  unfold spec_l01Child.f ChR
  have hr : -6 ≤ l ∧ l ≤ 6 ∧ 0 ≤ d ∧ d ≤ 6 := by unfold Bal at hb; omega
  have ht := hb.small h
  have h7 := h.le_seven
  have e2 : wrap64 (l + 1) = l + 1 := wrap_id (by omega) (by omega)
  have en : wrap64 (-l) = -l := wrap_id (by omega) (by omega)
  have e6 : (7 : Int) ^ 6 = 117649 := by decide
  by_cases hl : l = 6
  · simp only [if_pos hl]; exact Ev.now _
  simp only [if_neg hl, e2, en]
  have pd0 := pow_pos' h d.toNat
  have pd1 := pow_le_seven h (m := d.toNat) (n := 6) (by omega)
  rw [bnd (l01Power_ev h (by omega))]
  by_cases hn : l ≥ 0
  · simp only [if_pos hn]
    rw [bnd (l01Power_ev h (by omega))]
    have pl0 := pow_pos' h l.toNat
    have pl1 := pow_le_seven h (m := l.toNat) (n := 6) (by omega)
    have m0 : 0 ≤ i * p ^ d.toNat := Int.mul_nonneg hi.1 (by omega)
    have m1 : i * p ^ d.toNat ≤ 7 * p ^ d.toNat := Int.mul_le_mul_of_nonneg_right (by omega) (by omega)
    have w1 : wrap64 (i * p ^ d.toNat) = i * p ^ d.toNat := wrap_id (by omega) (by omega)
    have m2 : 0 ≤ i * p ^ d.toNat * p ^ l.toNat := Int.mul_nonneg m0 (by omega)
    have m3 : i * p ^ d.toNat * p ^ l.toNat ≤ 823543 * 117649 := Int.mul_le_mul (by omega) (by omega) (by omega) (by omega)
    have w2 : wrap64 (i * p ^ d.toNat * p ^ l.toNat) = i * p ^ d.toNat * p ^ l.toNat := wrap_id (by omega) (by omega)
    have w3 : wrap64 (t + i * p ^ d.toNat * p ^ l.toNat) = t + i * p ^ d.toNat * p ^ l.toNat := wrap_id (by omega) (by omega)
    simp only [w1, w2, w3]
    rw [bnd (l01Of_pow h (by omega) (by omega))]
    have em : mk p (t + i * p ^ d.toNat * p ^ l.toNat) d = mk p t d + i * p ^ (l + 6).toNat := by
      unfold mk
      rw [Int.add_mul, Int.mul_assoc i, Int.mul_assoc i, Int.mul_assoc (p ^ d.toNat), Int.mul_comm (p ^ l.toNat), ← Int.mul_assoc (p ^ d.toNat), pow_split (show d.toNat + (6 - d).toNat = 6 by omega), pow_split (show 6 + l.toNat = (l + 6).toNat by omega)]
    rw [em]
    simp only [if_pos (show -6 ≤ l + 1 ∧ l + 1 ≤ 6 by omega)]
    exact Ev.now _
  · simp only [if_neg hn]
    rw [bnd (l01Power_ev h (by omega))]
    simp only [if_neg (pow_ne' h _)]
    rw [bnd (l01Power_ev h (by omega))]
    simp only [if_neg (pow_ne' h _)]
    obtain ⟨e, he, h1, h2, h3⟩ : ∃ e : Nat, mx (p ^ d.toNat) (p ^ (-l).toNat) = p ^ e ∧ e ≤ 6 ∧ d.toNat ≤ e ∧ (-l).toNat ≤ e := by
      unfold mx
      by_cases hc : d.toNat ≤ (-l).toNat
      · refine ⟨(-l).toNat, ?_, by omega, hc, Nat.le_refl _⟩
        have := pow_mono h hc
        split <;> first | rfl | omega
      · refine ⟨d.toNat, ?_, by omega, Nat.le_refl _, by omega⟩
        have := pow_mono h (show (-l).toNat ≤ d.toNat by omega)
        split <;> first | rfl | omega
    have q1 : Int.tdiv (p ^ e) (p ^ d.toNat) = p ^ (e - d.toNat) := by
      rw [← pow_split (show d.toNat + (e - d.toNat) = e by omega)]; exact tdiv_mul_left (pow_ne' h _)
    have q2 : Int.tdiv (p ^ e) (p ^ (-l).toNat) = p ^ (e - (-l).toNat) := by
      rw [← pow_split (show (-l).toNat + (e - (-l).toNat) = e by omega)]; exact tdiv_mul_left (pow_ne' h _)
    have b0 := pow_pos' h (e - d.toNat)
    have b1 := pow_le_seven h (m := e - d.toNat) (n := 6) (by omega)
    have c0 := pow_pos' h (e - (-l).toNat)
    have c1 := pow_le_seven h (m := e - (-l).toNat) (n := 6) (by omega)
    have w1 : wrap64 (p ^ (e - d.toNat)) = p ^ (e - d.toNat) := wrap_id (by omega) (by omega)
    have w2 : wrap64 (p ^ (e - (-l).toNat)) = p ^ (e - (-l).toNat) := wrap_id (by omega) (by omega)
    have m0 : 0 ≤ t * p ^ (e - d.toNat) := Int.mul_nonneg ht.1 (by omega)
    have m1 : t * p ^ (e - d.toNat) ≤ 13841287201 * 117649 := Int.mul_le_mul ht.2 (by omega) (by omega) (by omega)
    have m2 : 0 ≤ i * p ^ (e - (-l).toNat) := Int.mul_nonneg hi.1 (by omega)
    have m3 : i * p ^ (e - (-l).toNat) ≤ 7 * 117649 := Int.mul_le_mul (by omega) (by omega) (by omega) (by omega)
    have w3 : wrap64 (t * p ^ (e - d.toNat)) = t * p ^ (e - d.toNat) := wrap_id (by omega) (by omega)
    have w4 : wrap64 (i * p ^ (e - (-l).toNat)) = i * p ^ (e - (-l).toNat) := wrap_id (by omega) (by omega)
    have w5 : wrap64 (t * p ^ (e - d.toNat) + i * p ^ (e - (-l).toNat)) = t * p ^ (e - d.toNat) + i * p ^ (e - (-l).toNat) := wrap_id (by omega) (by omega)
    simp only [he, q1, q2, w1, w2, w3, w4, w5]
    have hof := l01Of_pow (p := p) (t := t * p ^ (e - d.toNat) + i * p ^ (e - (-l).toNat)) (d := (e : Int)) (level := l + 1) h (by omega) (by omega)
    rw [Int.toNat_natCast] at hof
    rw [bnd hof]
    have em : mk p (t * p ^ (e - d.toNat) + i * p ^ (e - (-l).toNat)) (e : Int) = mk p t d + i * p ^ (l + 6).toNat := by
      unfold mk
      rw [Int.add_mul, Int.mul_assoc, Int.mul_assoc, pow_split (show e - d.toNat + (6 - (e : Int)).toNat = (6 - d).toNat by omega), pow_split (show e - (-l).toNat + (6 - (e : Int)).toNat = (l + 6).toNat by omega)]
    rw [em]
    simp only [if_pos (show -6 ≤ l + 1 ∧ l + 1 ≤ 6 by omega)]
    exact Ev.now _
theorem eqBalls_l (l : List S27) (hl : l.length ≤ 1000000) : ∀ d i : Nat, i + d = l.length → Ev (fun k => laws_eqBallS.l0 k l l i) true := by
  intro d
  induction d with
  | zero =>
    intro i hi
    refine Ev.step (fun k => by rw [laws_eqBallS.l0]) ?_
    simp only [if_neg (show ¬ (i : Int) < (l.length : Int) by omega)]
    exact Ev.now _
  | succ d ih =>
    intro i hi
    refine Ev.step (fun k => by rw [laws_eqBallS.l0]) ?_
    have e : wrap64 ((i : Int) + 1) = ((i + 1 : Nat) : Int) := by rw [wrap_id (by omega) (by omega)]; omega
    simp only [if_pos (show (i : Int) < (l.length : Int) by omega), if_pos (show (0 : Int) ≤ i by omega), laws_eqBall.f, if_true, Option.bind_some, e]
    exact ih (i + 1) (by omega)
theorem eqBalls_ev (l : List S27) (hl : l.length ≤ 1000000) : Ev (fun k => laws_eqBallS.f k l l) true := by
  unfold laws_eqBallS.f
  simp only [if_true]
  exact eqBalls_l l hl l.length 0 (by omega)
def upsB (a : Int) : Nat → List S27
  | 0 => []
  | n + 1 => ⟨a, a + 1, a + 2⟩ :: upsB (a + 3) n
theorem upsB_length (a : Int) (n : Nat) : (upsB a n).length = n := by
  induction n generalizing a with
  | zero => rfl
  | succ n ih => rw [show upsB a (n + 1) = ⟨a, a + 1, a + 2⟩ :: upsB (a + 3) n from rfl, List.length_cons, ih]
theorem set_atB (pre : List S27) (b c : S27) (ys : List S27) : (pre ++ b :: ys).set (pre.length : Int).toNat c = pre ++ c :: ys := by
  simp
theorem markBalls_l : ∀ (ys pre : List S27) (a : Int), (pre ++ ys).length ≤ 1000000 → 0 ≤ a → a + 3 * ys.length ≤ 1000000000 → Ev (fun k => laws_markBallS.l0 k (pre ++ ys) a pre.length) (a + 3 * ys.length, pre ++ upsB a ys.length) := by
  intro ys
  induction ys with
  | nil =>
    intro pre a hl h0 h1
    refine Ev.step (fun k => by rw [laws_markBallS.l0]) ?_
    simp only [List.append_nil, if_neg (Int.lt_irrefl _)]
    exact ev_some (by simp [upsB])
  | cons b ys ih =>
    intro pre a hl h0 h1
    refine Ev.step (fun k => by rw [laws_markBallS.l0]) ?_
    have hl' : (pre ++ b :: ys).length = pre.length + (ys.length + 1) := by simp
    have hlt : (pre.length : Int) < ((pre ++ b :: ys).length : Int) := by omega
    rw [List.length_cons] at h1
    have e1 : wrap64 (a + 1) = a + 1 := wrap_id (by omega) (by omega)
    have e3 : wrap64 (a + 1 + 1) = a + 2 := by rw [wrap_id (by omega) (by omega)]; omega
    have e4 : wrap64 (a + 2 + 1) = a + 3 := by rw [wrap_id (by omega) (by omega)]; omega
    have e2 : wrap64 ((pre.length : Int) + 1) = ((pre ++ [(⟨a, a + 1, a + 2⟩ : S27)]).length : Int) := by rw [wrap_id (by omega) (by omega)]; simp
    simp only [if_pos hlt, if_pos (show (0 : Int) ≤ (pre.length : Int) by omega), set_atB, rd_ball_at, Option.bind_some, e1, e3, e4, e2]
    have := ih (pre ++ [(⟨a, a + 1, a + 2⟩ : S27)]) (a + 3) (by simpa using hl) (by omega) (by omega)
    simp only [List.append_assoc, List.singleton_append] at this
    refine ev_eq this ?_
    rw [List.length_cons, show upsB a (ys.length + 1) = ⟨a, a + 1, a + 2⟩ :: upsB (a + 3) ys.length from rfl]
    refine Prod.ext ?_ rfl
    show a + 3 + 3 * (ys.length : Int) = a + 3 * ((ys.length + 1 : Nat) : Int)
    omega
theorem markBalls_ev {ys : List S27} {a : Int} (hl : ys.length ≤ 1000000) (h0 : 0 ≤ a) (h1 : a ≤ 1000000) : Ev (fun k => laws_markBallS.f k ys a) (a + 3 * ys.length, upsB a ys.length) := by
  unfold laws_markBallS.f
  exact markBalls_l ys [] a (by simpa using hl) h0 (by omega)
theorem heldBalls_l : ∀ (n : Nat) (pre : List S27) (a : Int), pre.length + n ≤ 1000000 → 0 ≤ a → a + 3 * n ≤ 1000000000 → Ev (fun k => laws_heldBallS.l0 k (pre ++ upsB a n) a pre.length) (a + 3 * n) := by
  intro n
  induction n with
  | zero =>
    intro pre a hl h0 h1
    refine Ev.step (fun k => by rw [laws_heldBallS.l0]) ?_
    simp only [upsB, List.append_nil, if_neg (Int.lt_irrefl _)]
    exact ev_some (by simp)
  | succ n ih =>
    intro pre a hl h0 h1
    refine Ev.step (fun k => by rw [laws_heldBallS.l0]) ?_
    have hl' : (pre ++ upsB a (n + 1)).length = pre.length + (n + 1) := by rw [List.length_append, upsB_length]
    have hlt : (pre.length : Int) < ((pre ++ upsB a (n + 1)).length : Int) := by omega
    have e1 : wrap64 (a + 1) = a + 1 := wrap_id (by omega) (by omega)
    have e3 : wrap64 (a + 1 + 1) = a + 2 := by rw [wrap_id (by omega) (by omega)]; omega
    have e4 : wrap64 (a + 2 + 1) = a + 3 := by rw [wrap_id (by omega) (by omega)]; omega
    have e2 : wrap64 ((pre.length : Int) + 1) = ((pre ++ [(⟨a, a + 1, a + 2⟩ : S27)]).length : Int) := by rw [wrap_id (by omega) (by omega)]; simp
    have hrd : rd_T27 (pre ++ upsB a (n + 1)) (pre.length : Int) = ⟨a, a + 1, a + 2⟩ := rd_ball_at pre _ _
    simp only [if_pos hlt, if_pos (show (0 : Int) ≤ (pre.length : Int) by omega), hrd, if_true, e1, e3, e4, e2]
    have := ih (pre ++ [(⟨a, a + 1, a + 2⟩ : S27)]) (a + 3) (by simp; omega) (by omega) (by omega)
    simp only [List.append_assoc, List.singleton_append] at this
    refine ev_eq this ?_
    omega
theorem heldBalls_ev {n : Nat} {a : Int} (hl : n ≤ 1000000) (h0 : 0 ≤ a) (h1 : a ≤ 1000000) : Ev (fun k => laws_heldBallS.f k (upsB a n) a) (a + 3 * n) := by
  unfold laws_heldBallS.f
  exact heldBalls_l n [] a (by simpa using hl) h0 (by omega)
def kids (p l t d : Int) (i : Nat) : Nat → List S27
  | 0 => []
  | n + 1 => ⟨(ChR p l t d i).1, (ChR p l t d i).2.1, (ChR p l t d i).2.2.1⟩ :: kids p l t d (i + 1) n
theorem kids_length (p l t d : Int) (n : Nat) : ∀ i, (kids p l t d i n).length = n := by
  induction n with
  | zero => intro i; rfl
  | succ n ih => intro i; rw [show kids p l t d i (n + 1) = _ :: kids p l t d (i + 1) n from rfl, List.length_cons, ih]
theorem ChR_no (p t d i : Int) : ChR p 6 t d i = (0, 0, 0, false) := if_pos rfl
theorem ChR_ok {p l t d i : Int} (hl : l ≠ 6) : (ChR p l t d i).2.2.2 = true := by unfold ChR; rw [if_neg hl]
theorem neighbour_ev {p l t d : Int} (h : IsP p) (hb : Bal p l t d) (i : Nat) (hi : (i : Int) < p) : Ev (fun k => impl_neighbour.f k p l t d ((i : Int) + 1)) (ChR p l t d i) := by
  unfold impl_neighbour.f
  have h7 := h.le_seven
  have e : wrap64 ((i : Int) + 1 - 1) = i := by rw [wrap_id (by omega) (by omega)]; omega
  simp only [if_neg (show ¬ (i : Int) + 1 = 0 by omega), e]
  rw [bnd (child_ev h hb (by omega))]
  exact Ev.now _
theorem neighbour0_ev {p l t d : Int} (h : IsP p) (hb : Bal p l t d) : Ev (fun k => impl_neighbour.f k p l t d 0) (ParR p l t d) := by
  unfold impl_neighbour.f
  simp only [if_true]
  rw [bnd (parent_ev h hb)]
  exact Ev.now _
theorem some_l {p l t d : Int} (h : IsP p) (hb : Bal p l t d) (hl : l ≠ 6) : ∀ (n i : Nat) (acc : List S27), (i : Int) + n = p → acc.length + n ≤ 1000 → Ev (fun k => impl_someNeighbours.l0 k p acc ((i : Int) + 1) l t d) (acc ++ kids p l t d i n, true) := by
  have h7 := h.le_seven
  intro n
  induction n with
  | zero =>
    intro i acc hi ha
    refine Ev.step (fun k => by rw [impl_someNeighbours.l0]) ?_
    simp only [if_neg (show ¬ (i : Int) + 1 ≤ p by omega)]
    exact ev_some (by rw [show kids p l t d i 0 = [] from rfl, List.append_nil])
  | succ n ih =>
    intro i acc hi ha
    refine Ev.step (fun k => by rw [impl_someNeighbours.l0]) ?_
    have hlt : acc.length < 5864062014805 := Nat.lt_of_le_of_lt (Nat.le_trans (Nat.le_add_right _ _) ha) (by omega)
    have e : wrap64 ((i : Int) + 1 + 1) = ((i + 1 : Nat) : Int) + 1 := by rw [wrap_id (by omega) (by omega)]; omega
    simp only [if_pos (show (i : Int) + 1 ≤ p by omega)]
    rw [bnd (neighbour_ev h hb i (by omega))]
    simp only [ChR_ok hl, if_true, if_pos hlt, e]
    have hx := ih (i + 1) (acc ++ [⟨(ChR p l t d i).1, (ChR p l t d i).2.1, (ChR p l t d i).2.2.1⟩]) (by omega) (by rw [List.length_append, List.length_singleton]; omega)
    rw [List.append_assoc] at hx
    exact hx
theorem kids_l {p l t d : Int} (h : IsP p) (hb : Bal p l t d) (hl : l ≠ 6) : ∀ (n i : Nat) (acc : List S27), (i : Int) + n = p → acc.length + n ≤ 1000 → Ev (fun k => spec_l02Children.l0 k p acc i l t d) (acc ++ kids p l t d i n, true) := by
  have h7 := h.le_seven
  intro n
  induction n with
  | zero =>
    intro i acc hi ha
    refine Ev.step (fun k => by rw [spec_l02Children.l0]) ?_
    simp only [if_neg (show ¬ (i : Int) < p by omega)]
    exact ev_some (by rw [show kids p l t d i 0 = [] from rfl, List.append_nil])
  | succ n ih =>
    intro i acc hi ha
    refine Ev.step (fun k => by rw [spec_l02Children.l0]) ?_
    have hlt : acc.length < 5864062014805 := Nat.lt_of_le_of_lt (Nat.le_trans (Nat.le_add_right _ _) ha) (by omega)
    have e : wrap64 ((i : Int) + 1) = ((i + 1 : Nat) : Int) := by rw [wrap_id (by omega) (by omega)]; omega
    simp only [if_pos (show (i : Int) < p by omega)]
    rw [bnd (l01Child_ev h hb (by omega))]
    simp only [ChR_ok hl, if_true, if_pos hlt, e]
    have hx := ih (i + 1) (acc ++ [⟨(ChR p l t d i).1, (ChR p l t d i).2.1, (ChR p l t d i).2.2.1⟩]) (by omega) (by rw [List.length_append, List.length_singleton]; omega)
    rw [List.append_assoc] at hx
    exact hx
def KidsR (p l t d : Int) : List S27 × Bool := if l = 6 then ([], false) else (kids p l t d 0 p.toNat, true)
theorem l02Children_ev {p l t d : Int} (h : IsP p) (hb : Bal p l t d) : Ev (fun k => spec_l02Children.f k p l t d) (KidsR p l t d) := by
  unfold spec_l02Children.f KidsR
  have h2 := h.two_le
  have h7 := h.le_seven
  by_cases hl : l = 6
  · subst hl
    refine Ev.step (fun k => by rw [spec_l02Children.l0]) ?_
    simp only [if_pos (show (0 : Int) < p by omega), if_true]
    rw [bnd (l01Child_ev h hb (show (0 : Int) ≤ 0 ∧ (0 : Int) < p by omega))]
    simp only [ChR_no, if_neg Bool.false_ne_true]
    exact Ev.now _
  · rw [if_neg hl]
    exact kids_l h hb hl p.toNat 0 [] (by omega) (by simp only [List.length_nil]; omega)
def parL (p l t d : Int) : S27 := ⟨(ParR p l t d).1, (ParR p l t d).2.1, (ParR p l t d).2.2.1⟩
def NearR (p l t d : Int) : List S27 × Bool := if (ParR p l t d).2.2.2 = true ∧ l ≠ 6 then (parL p l t d :: kids p l t d 0 p.toNat, true) else ([], false)
theorem someNear_ev {p l t d : Int} (h : IsP p) (hb : Bal p l t d) : Ev (fun k => impl_someNeighbours.f k p l t d 0) (NearR p l t d) := by
  unfold impl_someNeighbours.f NearR
  have h2 := h.two_le
  have h7 := h.le_seven
  refine Ev.step (fun k => by rw [impl_someNeighbours.l0]) ?_
  simp only [if_pos (show (0 : Int) ≤ p by omega)]
  rw [bnd (neighbour0_ev h hb)]
  by_cases hp : (ParR p l t d).2.2.2 = true
  · have e : wrap64 ((0 : Int) + 1) = 1 := wrap_id (by omega) (by omega)
    have hlt : ([] : List S27).length < 5864062014805 := by rw [List.length_nil]; omega
    simp only [if_pos hp, if_pos hlt, e, List.nil_append]
    by_cases hl : l = 6
    · subst hl
      simp only [hp, ne_eq, not_true_eq_false, and_false, if_false]
      refine Ev.step (fun k => by rw [impl_someNeighbours.l0]) ?_
      simp only [if_pos (show (1 : Int) ≤ p by omega)]
      have e := neighbour_ev h hb 0 (by omega)
      rw [show ((0 : Nat) : Int) + 1 = 1 from rfl] at e
      rw [bnd e]
      simp only [ChR_no, if_neg Bool.false_ne_true]
      exact Ev.now _
    · rw [if_pos (⟨hp, hl⟩ : (ParR p l t d).2.2.2 = true ∧ l ≠ 6)]
      exact some_l h hb hl p.toNat 0 [parL p l t d] (by omega) (by rw [List.length_singleton]; omega)
  · have hn : ¬ ((ParR p l t d).2.2.2 = true ∧ l ≠ 6) := fun hz => hp hz.1
    simp only [if_neg hp, if_neg hn]
    exact Ev.now _
theorem join_least {p l t d l' t' d' : Int} (hb : Bal p l t d) (hb' : Bal p l' t' d') : -6 ≤ joinL p l t d l' t' d' ∧ joinL p l t d l' t' d' ≤ l ∧ joinL p l t d l' t' d' ≤ l' := by
  have h1 := joinL_le (p := p) (la := l) (ta := t) (da := d) (lb := l') (tb := t') (db := d')
  have h2 := joinL_range hb hb'
  omega
theorem Bal.sm {p l t d : Int} (hp : IsP p) (h : Bal p l t d) : (-6 ≤ l ∧ l ≤ 6) ∧ (0 ≤ t ∧ t ≤ 13841287201) ∧ 0 ≤ d ∧ d ≤ 6 := by
  have h1 := h.small hp
  unfold Bal at h
  split at h <;> omega
theorem kid_dvd {p l t d i : Int} (h : IsP p) (hb : Bal p l t d) : p ^ (l + 6).toNat ∣ mk p (ofMt p (l + 1) (mk p t d + i * p ^ (l + 6).toNat)) (ofMd p (l + 1) (mk p t d + i * p ^ (l + 6).toNat)) - mk p t d := by
  have hr := Bal.sm h hb
  rw [ofM_mark h]
  have h1 := dvd_emod_sub (mk p t d + i * p ^ (l + 6).toNat) (p ^ (l + 1 + 6).toNat)
  have h2 : p ^ (l + 6).toNat ∣ p ^ (l + 1 + 6).toNat := pow_dvd (by omega)
  have h3 := Int.dvd_trans h2 h1
  have h4 : p ^ (l + 6).toNat ∣ i * p ^ (l + 6).toNat := ⟨i, Int.mul_comm _ _⟩
  have h5 := Int.dvd_add h3 h4
  rwa [show (mk p t d + i * p ^ (l + 6).toNat) % p ^ (l + 1 + 6).toNat - (mk p t d + i * p ^ (l + 6).toNat) + i * p ^ (l + 6).toNat = (mk p t d + i * p ^ (l + 6).toNat) % p ^ (l + 1 + 6).toNat - mk p t d by omega] at h5
theorem par_dvd {p l t d : Int} (h : IsP p) (hb : Bal p l t d) : p ^ (l - 1 + 6).toNat ∣ mk p t d - mk p (ofMt p (l - 1) (mk p t d)) (ofMd p (l - 1) (mk p t d)) := by
  rw [ofM_mark h]
  have h1 := Int.dvd_neg.2 (dvd_emod_sub (mk p t d) (p ^ (l - 1 + 6).toNat))
  rwa [show -(mk p t d % p ^ (l - 1 + 6).toNat - mk p t d) = mk p t d - mk p t d % p ^ (l - 1 + 6).toNat by omega] at h1
theorem mem_kids {p l t d : Int} {c : S27} : ∀ (n i : Nat), c ∈ kids p l t d i n → ∃ j : Int, c = ⟨(ChR p l t d j).1, (ChR p l t d j).2.1, (ChR p l t d j).2.2.1⟩ := by
  intro n
  induction n with
  | zero => intro i hc; simp [kids] at hc
  | succ n ih =>
    intro i hc
    rw [kids] at hc
    rcases List.mem_cons.1 hc with hc | hc
    · exact ⟨i, hc⟩
    · exact ih _ hc
/-- A child of a ball: one step below it. -/
def KidOf (p l t d : Int) (c : S27) : Prop := Bal p c.f0 c.f1 c.f2 ∧ c.f0 = l + 1 ∧ p ^ (l + 6).toNat ∣ mk p c.f1 c.f2 - mk p t d
theorem kidOf {p l t d : Int} (h : IsP p) (hb : Bal p l t d) (hl : l ≠ 6) {c : S27} {n i : Nat} (hc : c ∈ kids p l t d i n) : KidOf p l t d c := by
  have hr := Bal.sm h hb
  obtain ⟨j, rfl⟩ := mem_kids n i hc
  unfold ChR
  rw [if_neg hl]
  exact ⟨ofM_bal h (show -6 ≤ l + 1 by omega) (show l + 1 ≤ 6 by omega) _, rfl, kid_dvd h hb⟩
/-- The parent of a ball: one step above it. -/
def ParOf (p l t d : Int) (c : S27) : Prop := Bal p c.f0 c.f1 c.f2 ∧ c.f0 = l - 1 ∧ p ^ (l - 1 + 6).toNat ∣ mk p t d - mk p c.f1 c.f2
theorem parOf {p l t d : Int} (h : IsP p) (hb : Bal p l t d) (hl : (ParR p l t d).2.2.2 = true) : ParOf p l t d ⟨(ParR p l t d).1, (ParR p l t d).2.1, (ParR p l t d).2.2.1⟩ := by
  unfold ParR at hl ⊢
  by_cases hz : -6 ≤ l - 1 ∧ l - 1 ≤ 6
  · rw [if_pos hz]
    exact ⟨ofM_bal h hz.1 hz.2 _, rfl, par_dvd h hb⟩
  · rw [if_neg hz] at hl
    exact absurd hl (by simp)
/-- One step away from a ball, and no farther from another one than a step more. -/
theorem near_dist {p l t d l' t' d' : Int} (h : IsP p) (hb : Bal p l t d) (hb' : Bal p l' t' d') {c : S27} (hc : KidOf p l' t' d' c ∨ ParOf p l' t' d' c) : distL p l t d c.f0 c.f1 c.f2 ≤ distL p l t d l' t' d' + 1 := by
  have hj := join_least hb hb'
  have hr := joinL_range hb hb'
  have hd := ((le_joinL (la := l) (ta := t) (da := d) (lb := l') (tb := t') (db := d') h hr.1 hr.2).1 (Int.le_refl _)).2.2
  have hx := joinL_le (p := p) (la := l) (ta := t) (da := d) (lb := c.f0) (tb := c.f1) (db := c.f2)
  unfold distL
  rcases hc with ⟨h1, h2, h3⟩ | ⟨h1, h2, h3⟩
  · have s := Bal.sm h h1
    have e : joinL p l t d l' t' d' ≤ joinL p l t d c.f0 c.f1 c.f2 := by
      refine (le_joinL h hr.1 hr.2).2 ⟨hj.2.1, by omega, ?_⟩
      have e1 := Int.dvd_trans (pow_dvd (p := p) (show (joinL p l t d l' t' d' + 6).toNat ≤ (l' + 6).toNat by omega)) h3
      have e2 := Int.dvd_sub hd e1
      rwa [show mk p t d - mk p t' d' - (mk p c.f1 c.f2 - mk p t' d') = mk p t d - mk p c.f1 c.f2 by omega] at e2
    omega
  · have s := Bal.sm h h1
    by_cases hm : joinL p l t d l' t' d' ≤ l' - 1
    · have e : joinL p l t d l' t' d' ≤ joinL p l t d c.f0 c.f1 c.f2 := by
        refine (le_joinL h hr.1 hr.2).2 ⟨hj.2.1, by omega, ?_⟩
        have e1 := Int.dvd_trans (pow_dvd (p := p) (show (joinL p l t d l' t' d' + 6).toNat ≤ (l' - 1 + 6).toNat by omega)) h3
        have e2 := Int.dvd_add hd e1
        rwa [show mk p t d - mk p t' d' + (mk p t' d' - mk p c.f1 c.f2) = mk p t d - mk p c.f1 c.f2 by omega] at e2
      omega
    · have e : l' - 1 ≤ joinL p l t d c.f0 c.f1 c.f2 := by
        refine (le_joinL h (by omega) (by omega)).2 ⟨by omega, by omega, ?_⟩
        have e1 := Int.dvd_trans (pow_dvd (p := p) (show (l' - 1 + 6).toNat ≤ (joinL p l t d l' t' d' + 6).toNat by omega)) hd
        have e2 := Int.dvd_add e1 h3
        rwa [show mk p t d - mk p t' d' + (mk p t' d' - mk p c.f1 c.f2) = mk p t d - mk p c.f1 c.f2 by omega] at e2
      omega
theorem near_all {p l t d : Int} (h : IsP p) (hb : Bal p l t d) : (NearR p l t d).1.length ≤ 8 ∧ ∀ c ∈ (NearR p l t d).1, KidOf p l t d c ∨ ParOf p l t d c := by
  have h7 := h.le_seven
  unfold NearR
  by_cases hk : (ParR p l t d).2.2.2 = true ∧ l ≠ 6
  · rw [if_pos hk]
    refine ⟨by rw [List.length_cons, kids_length]; omega, ?_⟩
    intro c hc
    rcases List.mem_cons.1 hc with rfl | hc
    · exact .inr (parOf h hb hk.1)
    · exact .inl (kidOf h hb hk.2 hc)
  · rw [if_neg hk]
    exact ⟨by simp, by simp⟩
theorem specNear_ev {p l t d : Int} (h : IsP p) (hb : Bal p l t d) : ∃ xs : List S27 × Bool, Ev (fun k => spec_l02Near.f k p l t d) xs ∧ (xs = NearR p l t d ∨ xs.2 = false ∧ (NearR p l t d).2 = false) := by
  have h7 := h.le_seven
  have hlen : (KidsR p l t d).1.length ≤ 7 := by
    unfold KidsR
    by_cases hl : l = 6
    · simp only [if_pos hl, List.length_nil]; omega
    · simp only [if_neg hl, kids_length]; omega
  have hlt : [parL p l t d].length + (KidsR p l t d).1.length < 5864062014805 := by rw [List.length_singleton]; omega
  refine ⟨if (ParR p l t d).2.2.2 = true then (parL p l t d :: (KidsR p l t d).1, (KidsR p l t d).2) else (parL p l t d :: (KidsR p l t d).1, false), ?_, ?_⟩
  · unfold spec_l02Near.f
    rw [bnd (l01Parent_ev h hb), bnd (l02Children_ev h hb)]
    have hlt' : [(⟨(ParR p l t d).1, (ParR p l t d).2.1, (ParR p l t d).2.2.1⟩ : S27)].length + (KidsR p l t d).1.length < 5864062014805 := hlt
    simp only [Option.bind_some]
    simp only [if_pos hlt']
    by_cases hp : (ParR p l t d).2.2.2 = true
    · simp only [if_pos hp]; exact Ev.now _
    · simp only [if_neg hp]; exact Ev.now _
  · unfold NearR
    by_cases hp : (ParR p l t d).2.2.2 = true
    · by_cases hl : l = 6
      · right
        rw [if_pos hp, if_neg (fun hz => hz.2 hl)]
        unfold KidsR
        rw [if_pos hl]
        exact ⟨rfl, rfl⟩
      · left
        rw [if_pos hp, if_pos ⟨hp, hl⟩]
        unfold KidsR
        rw [if_neg hl]
    · right
      rw [if_neg hp, if_neg (fun hz => hp hz.1)]
      exact ⟨rfl, rfl⟩
def nearB (p : Int) (x : S27) : List S27 × Bool := NearR p x.f0 x.f1 x.f2
def distB (p : Int) (b c : S27) : Int := distL p b.f0 b.f1 b.f2 c.f0 c.f1 c.f2
def BalB (p : Int) (c : S27) : Prop := Bal p c.f0 c.f1 c.f2
/-- One sphere out of the one before. -/
def StepL (p : Int) (b : S27) (n : Int) : List S27 → List S27 → Option (List S27)
  | acc, [] => some acc
  | acc, x :: xs => if (nearB p x).2 = true then StepL p b n (acc ++ (nearB p x).1.filter (fun c => decide (distB p b c = n))) xs else none
def RunL (p : Int) (b : S27) : Nat → Int → List S27 → Option (List S27)
  | 0, _, xs => some xs
  | m + 1, n, xs => (StepL p b n [] xs).bind (RunL p b m (n + 1))
theorem step_facts {p : Int} {b : S27} (h : IsP p) (n : Int) : ∀ (xs acc ys : List S27), (∀ c ∈ xs, BalB p c) → (∀ c ∈ acc, BalB p c ∧ distB p b c = n) → StepL p b n acc xs = some ys → ys.length ≤ acc.length + 8 * xs.length ∧ ∀ c ∈ ys, BalB p c ∧ distB p b c = n := by
  intro xs
  induction xs with
  | nil =>
    intro acc ys _ ha e
    obtain rfl := Option.some.inj e
    exact ⟨by simp, ha⟩
  | cons x xs ih =>
    intro acc ys hx ha e
    rw [StepL] at e
    by_cases hn : (nearB p x).2 = true
    · rw [if_pos hn] at e
      have hbx := hx x (by simp)
      obtain ⟨n1, n2⟩ := near_all h hbx
      have hlen := List.length_filter_le (fun c => decide (distB p b c = n)) (nearB p x).1
      have n1' : (nearB p x).1.length ≤ 8 := n1
      obtain ⟨r1, r2⟩ := ih _ ys (fun c hc => hx c (List.mem_cons_of_mem _ hc)) (by
        intro c hc
        rcases List.mem_append.1 hc with hc | hc
        · exact ha c hc
        · obtain ⟨m1, m2⟩ := List.mem_filter.1 hc
          refine ⟨?_, of_decide_eq_true m2⟩
          rcases n2 c m1 with z | z
          · exact z.1
          · exact z.1) e
      refine ⟨?_, r2⟩
      rw [List.length_append] at r1
      rw [List.length_cons]
      omega
    · rw [if_neg hn] at e; exact absurd e (by simp)
/-- What stands ahead of a round: balls of one distance, not too many. -/
def Ring (p : Int) (b : S27) (n : Int) (m : Nat) (xs : List S27) : Prop := xs.length ≤ m ∧ ∀ c ∈ xs, BalB p c ∧ distB p b c = n
theorem ring_next {p : Int} {b : S27} (h : IsP p) {n : Int} {m : Nat} {xs ys : List S27} (hr : Ring p b n m xs) (e : StepL p b (n + 1) [] xs = some ys) : Ring p b (n + 1) (8 * m) ys := by
  obtain ⟨r1, r2⟩ := step_facts h (n + 1) xs [] ys (fun c hc => (hr.2 c hc).1) (by simp) e
  have := hr.1
  rw [List.length_nil] at r1
  exact ⟨by omega, r2⟩
theorem run_ring {p : Int} {b : S27} (h : IsP p) : ∀ (k : Nat) (n : Int) (m : Nat) (xs ys : List S27), Ring p b n m xs → RunL p b k (n + 1) xs = some ys → Ring p b (n + k) (8 ^ k * m) ys := by
  intro k
  induction k with
  | zero =>
    intro n m xs ys hr e
    obtain rfl := Option.some.inj e
    have e1 : n + ((0 : Nat) : Int) = n := by omega
    rw [e1, Nat.pow_zero, Nat.one_mul]
    exact hr
  | succ k ih =>
    intro n m xs ys hr e
    rw [RunL] at e
    obtain ⟨zs, e1, e2⟩ := Option.bind_eq_some_iff.1 e
    have := ih (n + 1) (8 * m) zs ys (ring_next h hr e1) e2
    have e1 : n + ((k + 1 : Nat) : Int) = n + 1 + (k : Int) := by omega
    rw [e1, Nat.pow_succ, Nat.mul_assoc]
    exact this
theorem specRing2 {p l t d : Int} (h : IsP p) (hb : Bal p l t d) {r kk x12 : Int} {xs : List S27} {z : List S27 × Int} : ∀ (ys pre acc : List S27), (pre ++ ys).length ≤ 1000 → acc.length + ys.length ≤ 100000 → (∀ c ∈ ys, BalB p c) →
    Ev (fun k => spec_SphereAround.l1 k p r xs kk (acc ++ ys.filter (fun c => decide (distB p ⟨l, t, d⟩ c = kk))) (wrap64 (x12 + 1)) l t d) z → Ev (fun k => spec_SphereAround.l2 k p r xs kk acc x12 (pre ++ ys) pre.length l t d) z := by
  intro ys
  induction ys with
  | nil =>
    intro pre acc h1 h2 h3 hz
    refine Ev.step (fun k => by rw [spec_SphereAround.l2]) ?_
    simp only [List.append_nil, if_neg (Int.lt_irrefl _)]
    rw [List.filter_nil, List.append_nil] at hz
    exact hz
  | cons y ys ih =>
    intro pre acc h1 h2 h3 hz
    have hy := h3 y (by simp)
    refine Ev.step (fun k => by rw [spec_SphereAround.l2]) ?_
    have hlt : (pre.length : Int) < ((pre ++ y :: ys).length : Int) := by rw [List.length_append, List.length_cons]; omega
    have hl : pre.length ≤ 1000 := by rw [List.length_append] at h1; omega
    rw [List.length_cons] at h2
    have e2 : wrap64 ((pre.length : Int) + 1) = ((pre ++ [y]).length : Int) := by rw [wrap_id (by omega) (by omega)]; simp
    simp only [if_pos hlt, if_pos (show (0 : Int) ≤ (pre.length : Int) by omega), rd_ball_at, e2]
    rw [bnd (l02Distance_ev h hb hy)]
    have ed : distL p l t d y.f0 y.f1 y.f2 = distB p ⟨l, t, d⟩ y := rfl
    rw [ed]
    have es : pre ++ y :: ys = (pre ++ [y]) ++ ys := by simp
    rw [es] at h1 ⊢
    by_cases hd : distB p ⟨l, t, d⟩ y = kk
    · simp only [if_pos hd, if_pos (show acc.length < 5864062014805 by omega)]
      refine ih (pre ++ [y]) (acc ++ [y]) h1 (by rw [List.length_append, List.length_singleton]; omega) (fun c hc => h3 c (List.mem_cons_of_mem _ hc)) ?_
      rw [List.filter_cons, if_pos (decide_eq_true hd)] at hz
      rw [List.append_assoc]
      exact hz
    · simp only [if_neg hd]
      refine ih (pre ++ [y]) acc h1 (by omega) (fun c hc => h3 c (List.mem_cons_of_mem _ hc)) ?_
      rw [List.filter_cons, if_neg (by rw [decide_eq_true_eq]; exact hd)] at hz
      exact hz
theorem near_balB {p : Int} (h : IsP p) {x : S27} (hx : BalB p x) : (nearB p x).1.length ≤ 8 ∧ ∀ c ∈ (nearB p x).1, BalB p c := by
  obtain ⟨n1, n2⟩ := near_all h hx
  refine ⟨n1, fun c hc => ?_⟩
  rcases n2 c hc with z | z
  · exact z.1
  · exact z.1
theorem specRing1 {p l t d : Int} (h : IsP p) (hb : Bal p l t d) {r kk : Int} {z : List S27 × Int} : ∀ (xs pre acc : List S27), (pre ++ xs).length ≤ 5000 → acc.length + 8 * xs.length ≤ 90000 → (∀ c ∈ xs, BalB p c) →
    (match StepL p ⟨l, t, d⟩ kk acc xs with | none => z = ([], 3) | some ys => Ev (fun k => spec_SphereAround.l0 k p r ys (wrap64 (kk + 1)) l t d) z) →
    Ev (fun k => spec_SphereAround.l1 k p r (pre ++ xs) kk acc pre.length l t d) z := by
  intro xs
  induction xs with
  | nil =>
    intro pre acc h1 h2 h3 hz
    refine Ev.step (fun k => by rw [spec_SphereAround.l1]) ?_
    simp only [List.append_nil, if_neg (Int.lt_irrefl _)]
    exact hz
  | cons x xs ih =>
    intro pre acc h1 h2 h3 hz
    have hx := h3 x (by simp)
    refine Ev.step (fun k => by rw [spec_SphereAround.l1]) ?_
    have hlt : (pre.length : Int) < ((pre ++ x :: xs).length : Int) := by rw [List.length_append, List.length_cons]; omega
    have hl : pre.length ≤ 5000 := by rw [List.length_append] at h1; omega
    rw [List.length_cons] at h2
    have e2 : wrap64 ((pre.length : Int) + 1) = ((pre ++ [x]).length : Int) := by rw [wrap_id (by omega) (by omega)]; simp
    simp only [if_pos hlt, if_pos (show (0 : Int) ≤ (pre.length : Int) by omega), rd_ball_at]
    obtain ⟨ns, en, hn⟩ := specNear_ev h hx
    rw [bnd en]
    rw [StepL] at hz
    have es : pre ++ x :: xs = (pre ++ [x]) ++ xs := by simp
    obtain ⟨b1, b2⟩ := near_balB h hx
    have hf := List.length_filter_le (fun c => decide (distB p ⟨l, t, d⟩ c = kk)) (nearB p x).1
    by_cases hk : (nearB p x).2 = true
    · rcases hn with hn | hn
      · have hn' : ns = nearB p x := hn
        rw [hn']
        simp only [if_pos hk]
        rw [if_pos hk] at hz
        refine specRing2 h hb (nearB p x).1 [] acc (by rw [List.nil_append]; omega) (by omega) b2 ?_
        rw [e2, es]
        rw [es] at h1
        exact ih (pre ++ [x]) _ h1 (by rw [List.length_append]; omega) (fun c hc => h3 c (List.mem_cons_of_mem _ hc)) hz
      · exact absurd (hn.2.symm.trans hk) (by simp)
    · have hns : ¬ ns.2 = true := by
        rcases hn with hn | hn
        · rw [hn]; exact hk
        · rw [hn.1]; simp
      rw [if_neg hk] at hz
      simp only [if_neg hns]
      exact ev_some hz.symm
theorem specRing0 {p l t d : Int} (h : IsP p) (hb : Bal p l t d) {r : Int} (hr : r ≤ 4) : ∀ (m : Nat) (n : Int) (q : Nat) (xs : List S27), 0 ≤ n → n + m = r → Ring p ⟨l, t, d⟩ n q xs → 8 ^ m * q ≤ 5000 →
    Ev (fun k => spec_SphereAround.l0 k p r xs (n + 1) l t d) (match RunL p ⟨l, t, d⟩ m (n + 1) xs with | none => ([], 3) | some ys => (ys, 0)) := by
  intro m
  induction m with
  | zero =>
    intro n q xs n0 hn hg hq
    refine Ev.step (fun k => by rw [spec_SphereAround.l0]) ?_
    simp only [if_neg (show ¬ n + 1 ≤ r by omega), RunL]
    exact Ev.now _
  | succ m ih =>
    intro n q xs n0 hn hg hq
    refine Ev.step (fun k => by rw [spec_SphereAround.l0]) ?_
    simp only [if_pos (show n + 1 ≤ r by omega)]
    have h8 : 1 ≤ 8 ^ m := Nat.one_le_pow _ _ (by omega)
    have hq8 : 8 ^ m * (8 * q) ≤ 5000 := by rw [Nat.pow_succ, Nat.mul_assoc] at hq; exact hq
    have hq1 : 1 * (8 * q) ≤ 8 ^ m * (8 * q) := Nat.mul_le_mul_right _ h8
    have hl := hg.1
    refine specRing1 h hb xs [] [] (by rw [List.nil_append]; omega) (by rw [List.length_nil]; omega) (fun c hc => (hg.2 c hc).1) ?_
    rw [RunL]
    cases e : StepL p ⟨l, t, d⟩ (n + 1) [] xs with
    | none => rfl
    | some ys =>
      dsimp only [Option.bind_some]
      rw [wrap_id (x := n + 1 + 1) (by omega) (by omega)]
      exact ih (n + 1) (8 * q) ys (by omega) (by omega) (ring_next h hg e) hq8
def SphereR (p l t d r : Int) : List S27 × Int := if IsP p ∧ Bal p l t d then (if 0 ≤ r ∧ r ≤ 4 then (match RunL p ⟨l, t, d⟩ r.toNat 1 [⟨l, t, d⟩] with | none => ([], 3) | some ys => (ys, 0)) else ([], 2)) else ([], 1)
theorem ring_one {p l t d : Int} (hb : Bal p l t d) (h : IsP p) : Ring p ⟨l, t, d⟩ 0 1 [⟨l, t, d⟩] := by
  refine ⟨by simp, ?_⟩
  intro c hc
  rw [List.mem_singleton] at hc
  subst hc
  refine ⟨hb, ?_⟩
  have hs := Bal.sm h hb
  show l + l - 2 * joinL p l t d l t d = 0
  rw [(contains_iff h hs.1.1 hs.1.2).2 ⟨Int.le_refl _, by rw [Int.sub_self]; exact Int.dvd_zero _⟩]
  omega
theorem pow8_le {r : Int} (h0 : 0 ≤ r) (h1 : r ≤ 4) : 8 ^ r.toNat * 1 ≤ 5000 := by
  have : 8 ^ r.toNat ≤ 8 ^ 4 := Nat.pow_le_pow_right (by omega) (by omega)
  omega
theorem SphereR_length (p l t d r : Int) : (SphereR p l t d r).1.length ≤ 5000 := by
  unfold SphereR
  by_cases h : IsP p ∧ Bal p l t d
  · rw [if_pos h]
    by_cases hr : 0 ≤ r ∧ r ≤ 4
    · rw [if_pos hr]
      have hq := pow8_le hr.1 hr.2
      cases e : RunL p ⟨l, t, d⟩ r.toNat 1 [⟨l, t, d⟩] with
      | none => simp
      | some ys =>
        have := run_ring h.1 r.toNat 0 1 [⟨l, t, d⟩] ys (ring_one h.2 h.1) e
        exact Nat.le_trans this.1 hq
    · rw [if_neg hr]; simp
  · rw [if_neg h]; simp
theorem specSphereAround_ev {p l t d r : Int} (hl : -9223372036854775808 ≤ l ∧ l ≤ 9223372036854775807) (hd : -9223372036854775808 ≤ d ∧ d ≤ 9223372036854775807) : Ev (fun k => spec_SphereAround.f k p l t d r) (SphereR p l t d r) := by
  unfold spec_SphereAround.f SphereR
  rw [bnd (l01Code1 hl hd)]
  by_cases h : IsP p ∧ Bal p l t d
  · simp only [h, and_self, if_true, l01In_eq, Option.bind_some]
    refine Ev.step (fun k => by rw [spec_SphereAround.j0]) ?_
    by_cases hr : 0 ≤ r ∧ r ≤ 4
    · simp only [decide_eq_true hr, Bool.not_true, if_neg Bool.false_ne_true, if_pos hr]
      refine Ev.step (fun k => by rw [spec_SphereAround.j1]) ?_
      simp only [if_true]
      exact specRing0 h.1 h.2 hr.2 r.toNat 0 1 _ (by omega) (by omega) (ring_one h.2 h.1) (pow8_le hr.1 hr.2)
    · simp only [decide_eq_false hr, Bool.not_false, if_true, if_neg hr]
      refine Ev.step (fun k => by rw [spec_SphereAround.j1]) ?_
      simp only [if_neg (show ¬ (2 : Int) = 0 by omega)]
      exact Ev.now _
  · simp only [h, if_false, if_neg (show ¬ (1 : Int) = 0 by omega)]
    refine Ev.step (fun k => by rw [spec_SphereAround.j0]) ?_
    simp only [if_neg Bool.false_ne_true]
    refine Ev.step (fun k => by rw [spec_SphereAround.j1]) ?_
    simp only [if_neg (show ¬ (1 : Int) = 0 by omega)]
    exact Ev.now _
theorem rd_lists_at (pre : List (List S27)) (b : List S27) : rd_L2 (pre ++ [b]) (pre.length : Int) = b := by
  unfold rd_L2
  simp [List.getD_eq_getElem?_getD]
theorem implRing2 {p l t d : Int} (h : IsP p) (hb : Bal p l t d) {out : List (List S27)} {n r n' len i : Int} {xs : List S27} {z : List (List S27) × Bool} : ∀ (ys pre acc : List S27), (pre ++ ys).length ≤ 1000 → acc.length + ys.length ≤ 100000 → (∀ c ∈ ys, BalB p c ∧ distB p ⟨l, t, d⟩ c ≤ n + 1) →
    Ev (fun k => impl_spheres.l1 k p out n (acc ++ ys.filter (fun c => decide (distB p ⟨l, t, d⟩ c = n + 1))) r n' xs len (wrap64 (i + 1)) l t d) z → Ev (fun k => impl_spheres.l2 k p out n acc r n' xs len i (pre ++ ys) ((pre ++ ys).length : Int) pre.length l t d) z := by
  intro ys
  induction ys with
  | nil =>
    intro pre acc h1 h2 h3 hz
    refine Ev.step (fun k => by rw [impl_spheres.l2]) ?_
    simp only [List.append_nil, if_neg (Int.lt_irrefl _)]
    rw [List.filter_nil, List.append_nil] at hz
    exact hz
  | cons y ys ih =>
    intro pre acc h1 h2 h3 hz
    have hy := h3 y (by simp)
    refine Ev.step (fun k => by rw [impl_spheres.l2]) ?_
    have hlt : (pre.length : Int) < ((pre ++ y :: ys).length : Int) := by rw [List.length_append, List.length_cons]; omega
    have hl : pre.length ≤ 1000 := by rw [List.length_append] at h1; omega
    rw [List.length_cons] at h2
    have e2 : wrap64 ((pre.length : Int) + 1) = ((pre ++ [y]).length : Int) := by rw [wrap_id (by omega) (by omega)]; simp
    simp only [if_pos hlt, if_pos (show (0 : Int) ≤ (pre.length : Int) by omega), rd_ball_at, e2]
    rw [bnd (distance_ev h hb hy.1)]
    have ed : distL p l t d y.f0 y.f1 y.f2 = distB p ⟨l, t, d⟩ y := rfl
    rw [ed]
    have es : pre ++ y :: ys = (pre ++ [y]) ++ ys := by simp
    rw [es] at h1 ⊢
    have hle := hy.2
    by_cases hd : distB p ⟨l, t, d⟩ y = n + 1
    · simp only [if_pos (show distB p ⟨l, t, d⟩ y > n by omega), if_pos (show acc.length < 5864062014805 by omega)]
      refine ih (pre ++ [y]) (acc ++ [y]) h1 (by rw [List.length_append, List.length_singleton]; omega) (fun c hc => h3 c (List.mem_cons_of_mem _ hc)) ?_
      rw [List.filter_cons, if_pos (decide_eq_true hd)] at hz
      rw [List.append_assoc]
      exact hz
    · simp only [if_neg (show ¬ distB p ⟨l, t, d⟩ y > n by omega)]
      refine ih (pre ++ [y]) acc h1 (by omega) (fun c hc => h3 c (List.mem_cons_of_mem _ hc)) ?_
      rw [List.filter_cons, if_neg (by rw [decide_eq_true_eq]; exact hd)] at hz
      exact hz
theorem implRing1 {p l t d : Int} (h : IsP p) (hb : Bal p l t d) {out : List (List S27)} {n r n' : Int} (ho : out.length ≤ 1000) {z : List (List S27) × Bool} : ∀ (xs pre acc : List S27), (pre ++ xs).length ≤ 5000 → acc.length + 8 * xs.length ≤ 90000 → (∀ c ∈ xs, BalB p c ∧ distB p ⟨l, t, d⟩ c = n) →
    (match StepL p ⟨l, t, d⟩ (n + 1) acc xs with | none => z = ([], false) | some ys => Ev (fun k => impl_spheres.l0 k p (out ++ [ys]) r (wrap64 (n' + 1)) l t d) z) →
    Ev (fun k => impl_spheres.l1 k p out n acc r n' (pre ++ xs) ((pre ++ xs).length : Int) pre.length l t d) z := by
  intro xs
  induction xs with
  | nil =>
    intro pre acc h1 h2 h3 hz
    refine Ev.step (fun k => by rw [impl_spheres.l1]) ?_
    simp only [List.append_nil, if_neg (Int.lt_irrefl _), if_pos (show out.length < 5864062014805 by omega)]
    exact hz
  | cons x xs ih =>
    intro pre acc h1 h2 h3 hz
    have hx := h3 x (by simp)
    refine Ev.step (fun k => by rw [impl_spheres.l1]) ?_
    have hlt : (pre.length : Int) < ((pre ++ x :: xs).length : Int) := by rw [List.length_append, List.length_cons]; omega
    have hl : pre.length ≤ 5000 := by rw [List.length_append] at h1; omega
    rw [List.length_cons] at h2
    have e2 : wrap64 ((pre.length : Int) + 1) = ((pre ++ [x]).length : Int) := by rw [wrap_id (by omega) (by omega)]; simp
    simp only [if_pos hlt, if_pos (show (0 : Int) ≤ (pre.length : Int) by omega), rd_ball_at]
    have en : Ev (fun k => impl_someNeighbours.f k p x.f0 x.f1 x.f2 0) (nearB p x) := someNear_ev h hx.1
    rw [bnd en]
    rw [StepL] at hz
    have es : pre ++ x :: xs = (pre ++ [x]) ++ xs := by simp
    obtain ⟨b1, b2⟩ := near_all h hx.1
    have b1' : (nearB p x).1.length ≤ 8 := b1
    have hf := List.length_filter_le (fun c => decide (distB p ⟨l, t, d⟩ c = n + 1)) (nearB p x).1
    by_cases hk : (nearB p x).2 = true
    · simp only [if_pos hk]
      rw [if_pos hk] at hz
      refine implRing2 h hb (nearB p x).1 [] acc (by rw [List.nil_append]; omega) (by omega) (fun c hc => ?_) ?_
      · have hcx := b2 c hc
        have e := near_dist h hb hx.1 hcx
        have e' : distB p ⟨l, t, d⟩ c ≤ distB p ⟨l, t, d⟩ x + 1 := e
        refine ⟨?_, by have := hx.2; omega⟩
        rcases hcx with z | z
        · exact z.1
        · exact z.1
      · rw [e2, es]
        rw [es] at h1
        exact ih (pre ++ [x]) _ h1 (by rw [List.length_append]; omega) (fun c hc => h3 c (List.mem_cons_of_mem _ hc)) hz
    · rw [if_neg hk] at hz
      simp only [if_neg hk]
      exact ev_some hz.symm
theorem implRing0 {p l t d : Int} (h : IsP p) (hb : Bal p l t d) {r : Int} (hr : r ≤ 4) : ∀ (m : Nat) (pre : List (List S27)) (q : Nat) (xs : List S27), (pre.length : Int) + m = r → Ring p ⟨l, t, d⟩ pre.length q xs → 8 ^ m * q ≤ 5000 →
    (match RunL p ⟨l, t, d⟩ m ((pre.length : Int) + 1) xs with | none => Ev (fun k => impl_spheres.l0 k p (pre ++ [xs]) r pre.length l t d) ([], false) | some ys => ∃ pre' : List (List S27), (pre'.length : Int) = r ∧ Ev (fun k => impl_spheres.l0 k p (pre ++ [xs]) r pre.length l t d) (pre' ++ [ys], true)) := by
  intro m
  induction m with
  | zero =>
    intro pre q xs hn hg hq
    rw [RunL]
    refine ⟨pre, by omega, Ev.step (fun k => by rw [impl_spheres.l0]) ?_⟩
    simp only [if_neg (show ¬ (pre.length : Int) < r by omega)]
    exact Ev.now _
  | succ m ih =>
    intro pre q xs hn hg hq
    have h8 : 1 ≤ 8 ^ m := Nat.one_le_pow _ _ (by omega)
    have hq8 : 8 ^ m * (8 * q) ≤ 5000 := by rw [Nat.pow_succ, Nat.mul_assoc] at hq; exact hq
    have hq1 : 1 * (8 * q) ≤ 8 ^ m * (8 * q) := Nat.mul_le_mul_right _ h8
    have hl := hg.1
    have go : ∀ z, (match StepL p ⟨l, t, d⟩ ((pre.length : Int) + 1) [] xs with | none => z = ([], false) | some ys => Ev (fun k => impl_spheres.l0 k p ((pre ++ [xs]) ++ [ys]) r (wrap64 ((pre.length : Int) + 1)) l t d) z) → Ev (fun k => impl_spheres.l0 k p (pre ++ [xs]) r pre.length l t d) z := by
      intro z hz
      refine Ev.step (fun k => by rw [impl_spheres.l0]) ?_
      simp only [if_pos (show (pre.length : Int) < r by omega), if_pos (show (0 : Int) ≤ (pre.length : Int) by omega), rd_lists_at]
      simp only [if_pos (show (pre.length : Int) < ((pre ++ [xs]).length : Int) by rw [List.length_append, List.length_singleton]; omega)]
      exact implRing1 h hb (by rw [List.length_append, List.length_singleton]; omega) xs [] [] (by rw [List.nil_append]; omega) (by rw [List.length_nil]; omega) hg.2 hz
    rw [RunL]
    cases e : StepL p ⟨l, t, d⟩ ((pre.length : Int) + 1) [] xs with
    | none =>
      refine go _ ?_
      rw [e]
    | some ys =>
      dsimp only [Option.bind_some]
      have hlen : ((pre ++ [xs]).length : Int) = (pre.length : Int) + 1 := by rw [List.length_append, List.length_singleton]; omega
      have hi := ih (pre ++ [xs]) (8 * q) ys (by omega) (by rw [hlen]; exact ring_next h hg e) hq8
      have ew : wrap64 ((pre.length : Int) + 1) = ((pre ++ [xs]).length : Int) := by rw [hlen]; exact wrap_id (by omega) (by omega)
      rw [hlen] at hi
      rw [e, ew, hlen] at go
      cases e2 : RunL p ⟨l, t, d⟩ m ((pre.length : Int) + 1 + 1) ys with
      | none =>
        rw [e2] at hi
        exact go _ hi
      | some zs =>
        rw [e2] at hi
        obtain ⟨pre', h1, h2⟩ := hi
        exact ⟨pre', h1, go _ h2⟩
theorem implSphereAround_ev {p l t d r : Int} (hl : -9223372036854775808 ≤ l ∧ l ≤ 9223372036854775807) (hd : -9223372036854775808 ≤ d ∧ d ≤ 9223372036854775807) : Ev (fun k => impl_SphereAround.f k p l t d r) (SphereR p l t d r) := by
  have hlen := SphereR_length p l t d r
  unfold impl_SphereAround.f
  rw [bnd (IsBall_ev hl hd)]
  by_cases h : IsP p ∧ Bal p l t d
  · simp only [decide_eq_true h, if_true]
    by_cases hr : 0 ≤ r ∧ r ≤ 4
    · simp only [if_neg (show ¬ r < 0 by omega), if_neg (show ¬ r > 4 by omega)]
      have hi : (match RunL p ⟨l, t, d⟩ r.toNat 1 [⟨l, t, d⟩] with | none => Ev (fun k => impl_spheres.l0 k p [[⟨l, t, d⟩]] r 0 l t d) ([], false) | some ys => ∃ pre' : List (List S27), (pre'.length : Int) = r ∧ Ev (fun k => impl_spheres.l0 k p [[⟨l, t, d⟩]] r 0 l t d) (pre' ++ [ys], true)) :=
        implRing0 h.1 h.2 hr.2 r.toNat [] 1 [⟨l, t, d⟩] (by simp; omega) (ring_one h.2 h.1) (pow8_le hr.1 hr.2)
      unfold SphereR at hlen ⊢
      rw [if_pos h, if_pos hr] at hlen ⊢
      unfold impl_spheres.f
      cases e : RunL p ⟨l, t, d⟩ r.toNat 1 [⟨l, t, d⟩] with
      | none =>
        rw [e] at hi
        rw [bnd hi]
        simp only [if_neg Bool.false_ne_true]
        exact Ev.now _
      | some ys =>
        rw [e] at hi hlen
        obtain ⟨pre', h1, h2⟩ := hi
        rw [bnd h2]
        have hy : ys.length ≤ 5000 := hlen
        have hlt : r < ((pre' ++ [ys]).length : Int) := by rw [List.length_append, List.length_singleton]; omega
        have hrd : rd_L2 (pre' ++ [ys]) r = ys := by rw [← h1]; exact rd_lists_at pre' ys
        simp only [if_true, if_pos hr.1, if_pos hlt, hrd, impl_Ball.f, Option.bind_some]
        rw [if_pos (show ([] : List S27).length + ys.length < 5864062014805 by rw [List.length_nil]; omega)]
        exact Ev.now _
    · unfold SphereR
      rw [if_pos h, if_neg hr]
      by_cases h0 : r < 0
      · simp only [if_pos h0]; exact Ev.now _
      · simp only [if_neg h0, if_pos (show r > 4 by omega)]; exact Ev.now _
  · unfold SphereR
    rw [if_neg h]
    simp only [decide_eq_false h, if_neg Bool.false_ne_true]
    exact Ev.now _
def FnExactSphereAroundPure : Prop := ∀ (a0 : Int) (a1_0 : Int) (a1_1 : Int) (a1_2 : Int) (a2 : Int), (Lit.int .i64 a0).wf = true → (Lit.int .i64 a1_0).wf = true → (Lit.int .i64 a1_1).wf = true → (Lit.int .i64 a1_2).wf = true → (Lit.int .i64 a2).wf = true → ∃ k, laws_FnExactSphereAround.f k a0 a1_0 a1_1 a1_2 a2 = some true
theorem FnExactSphereAround : FnExactSphereAroundPure := by
  intro a0 a1 a2 a3 a4 w0 w1 w2 w3 w4
  refine Ev.rounds (g := fun k => laws_FnExactSphereAround.f k a0 a1 a2 a3 a4) ?_
  unfold laws_FnExactSphereAround.f
  simp only [laws_toBall.f, Option.bind_some]
  have hd := implSphereAround_ev (p := a0) (t := a2) (r := a4) (wf_range w1) (wf_range w3)
  have hl := SphereR_length a0 a1 a2 a3 a4
  rw [bnd (specSphereAround_ev (wf_range w1) (wf_range w3)), bnd hd, bnd (eqBalls_ev _ (by omega))]
  simp only [if_true, bne_self_eq_false]
  refine Ev.step (fun k => by rw [laws_FnExactSphereAround.j0]) ?_
  simp only [if_neg Bool.false_ne_true, laws_toBall.f, Option.bind_some]
  rw [bnd (markBalls_ev (by omega) (by omega) (by omega))]
  rw [bnd (heldBalls_ev (by omega) (by omega) (by omega))]
  simp only [if_neg (show ¬ ((1 : Int) + 3 * ((SphereR a0 a1 a2 a3 a4).1.length : Int) < 0) by omega), if_true]
  rw [bnd hd, bnd (eqBalls_ev _ (by omega))]
  simp only [if_true, bne_self_eq_false]
  refine Ev.step (fun k => by rw [laws_FnExactSphereAround.j1]) ?_
  simp only [if_neg Bool.false_ne_true]
  rw [bnd (heldBalls_ev (by omega) (by omega) (by omega))]
  simp only [if_neg (show ¬ ((1 : Int) + 3 * ((SphereR a0 a1 a2 a3 a4).1.length : Int) < 0) by omega), if_true]
  exact Ev.now _

end Go.Proofs.Ytpmepopagapeiaa.Pure

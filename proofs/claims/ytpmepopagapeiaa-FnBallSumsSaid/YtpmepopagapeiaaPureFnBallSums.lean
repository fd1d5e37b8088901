/- Sums do not depend on the order, opposites of opposites are the balls, multiples there and back are the balls, digits tell Top, and all of them are the reference's: for every draw. No condition. -/
import Derived.Test.YtpmepopagapeiaaPFnBallSumsx14
import Derived.Test.YtpmepopagapeiaaMathFnBallSums
namespace Go.Proofs.Ytpmepopagapeiaa.Pure
open Go.RowKit Go.Proofs.Ytpmepopagapeiaa.PFnBallSums Go.Proofs.YtpmepopagapeiaaW.PrintWords Go.Proofs.YtpmepopagapeiaaW.PrintLast Go.Proofs.YtpmepopagapeiaaW.PrintMore Go.Proofs.Ytpmepopagapeiaa.Math
set_option linter.unusedVariables false
set_option linter.unusedSimpArgs false
theorem isPrime_eq (p : Int) : impl_isPrime.f p = some (decide (IsP p)) := by
  unfold impl_isPrime.f IsP
  by_cases h2 : p = 2
  · subst h2; rfl
  by_cases h3 : p = 3
  · subst h3; rfl
  by_cases h5 : p = 5
  · subst h5; rfl
  by_cases h7 : p = 7
  · subst h7; rfl
  simp [h2, h3, h5, h7]
theorem l01Prime_eq (p : Int) : spec_l01Prime.f p = some (decide (IsP p)) := by
  unfold spec_l01Prime.f IsP
  by_cases h2 : p = 2
  · subst h2; rfl
  by_cases h3 : p = 3
  · subst h3; rfl
  by_cases h5 : p = 5
  · subst h5; rfl
  by_cases h7 : p = 7
  · subst h7; rfl
  simp [h2, h3, h5, h7]
theorem l01In_eq (n a b : Int) : spec_l01In.f n a b = some (decide (a ≤ n ∧ n ≤ b)) := by
  unfold spec_l01In.f
  by_cases h : n ≥ a
  · rw [if_pos h]; simp [h]
  · rw [if_neg h]; simp; omega
theorem isLevel_eq (n : Int) : impl_isLevel.f n = some (decide (-6 ≤ n ∧ n ≤ 6)) := by
  unfold impl_isLevel.f
  by_cases h : n ≥ (-6)
  · rw [if_pos h]; simp [h]
  · rw [if_neg h]; simp; omega
theorem power_l {p : Int} (h : IsP p) (n : Nat) (hn : p ^ n ≤ 9223372036854775807) (hn' : n ≤ 1000) : ∀ d i, i + d = n → Ev (fun k => impl_power.l0 k p (p ^ i) n i) (p ^ n) := by
  intro d
  induction d with
  | zero =>
    intro i hi
    obtain rfl : i = n := by omega
    refine Ev.step (fun k => by rw [impl_power.l0]) ?_
    simp only [if_neg (Int.lt_irrefl _)]
    exact Ev.now _
  | succ d ih =>
    intro i hi
    refine Ev.step (fun k => by rw [impl_power.l0]) ?_
    have h1 : (i : Int) < n := by omega
    have h2 := pow_pos' h (i + 1)
    have h3 := pow_mono h (m := i + 1) (n := n) (by omega)
    have e1 : wrap64 (p ^ i * p) = p ^ (i + 1) := by rw [← show p ^ (i + 1) = p ^ i * p from Int.pow_succ p i]; exact wrap_id (by omega) (by omega)
    have e2 : wrap64 ((i : Int) + 1) = ((i + 1 : Nat) : Int) := by rw [wrap_id (by omega) (by omega)]; omega
    simp only [if_pos h1, e1, e2]
    exact ih (i + 1) (by omega)
theorem power_big {p : Int} (h : IsP p) {n : Nat} (hn : p ^ n ≤ 9223372036854775807) (hn' : n ≤ 1000) : Ev (fun k => impl_power.f k p n) (p ^ n) := by
  unfold impl_power.f
  have := power_l h n hn hn' n 0 (by omega)
  rw [Int.pow_zero] at this
  exact this
theorem power_ev {p : Int} (h : IsP p) {n : Int} (hn : n ≤ 22) : Ev (fun k => impl_power.f k p n) (p ^ n.toNat) := by
  by_cases h0 : 0 ≤ n
  · have := power_big h (n := n.toNat) (by have := pow_le_22 h (n := n.toNat) (by omega); omega) (by omega)
    rw [Int.toNat_of_nonneg h0] at this
    exact this
  · unfold impl_power.f
    refine Ev.step (fun k => by rw [impl_power.l0]) ?_
    have e : n.toNat = 0 := by omega
    simp only [if_neg (show ¬ (0 : Int) < n by omega), e, Int.pow_zero]
    exact Ev.now _
theorem l01Power_l {p : Int} (h : IsP p) : ∀ (d : Nat) (i : Nat), p ^ (i + d) ≤ 9223372036854775807 → i + d ≤ 1000 → Ev (fun k => spec_l01Power.l0 k p d (p ^ i)) (p ^ (i + d)) := by
  intro d
  induction d with
  | zero =>
    intro i _ _
    refine Ev.step (fun k => by rw [spec_l01Power.l0]) ?_
    simp only [if_neg (show ¬ ((0 : Nat) : Int) > 0 by omega)]
    exact Ev.now _
  | succ d ih =>
    intro i hi hi'
    refine Ev.step (fun k => by rw [spec_l01Power.l0]) ?_
    have h2 := pow_pos' h (i + 1)
    have h3 := pow_mono h (m := i + 1) (n := i + (d + 1)) (by omega)
    have e1 : wrap64 (p ^ i * p) = p ^ (i + 1) := by rw [← show p ^ (i + 1) = p ^ i * p from Int.pow_succ p i]; exact wrap_id (by omega) (by omega)
    have e2 : wrap64 (((d + 1 : Nat) : Int) - 1) = (d : Int) := by rw [wrap_id (by omega) (by omega)]; omega
    simp only [if_pos (show ((d + 1 : Nat) : Int) > 0 by omega), e1, e2]
    have e3 : i + (d + 1) = i + 1 + d := by omega
    rw [e3] at hi ⊢
    exact ih (i + 1) hi (by omega)
theorem l01Power_big {p : Int} (h : IsP p) {n : Nat} (hn : p ^ n ≤ 9223372036854775807) (hn' : n ≤ 1000) : Ev (fun k => spec_l01Power.f k p n) (p ^ n) := by
  unfold spec_l01Power.f
  have := l01Power_l h n 0 (by rw [Nat.zero_add]; exact hn) (by omega)
  rw [Int.pow_zero, Nat.zero_add] at this
  exact this
theorem l01Power_ev {p : Int} (h : IsP p) {n : Int} (hn : n ≤ 22) : Ev (fun k => spec_l01Power.f k p n) (p ^ n.toNat) := by
  by_cases h0 : 0 ≤ n
  · have := l01Power_big h (n := n.toNat) (by have := pow_le_22 h (n := n.toNat) (by omega); omega) (by omega)
    rw [Int.toNat_of_nonneg h0] at this
    exact this
  · unfold spec_l01Power.f
    refine Ev.step (fun k => by rw [spec_l01Power.l0]) ?_
    have e : n.toNat = 0 := by omega
    simp only [if_neg (show ¬ n > 0 by omega), e, Int.pow_zero]
    exact Ev.now _
theorem l01Power_any {p x : Int} (h : IsP p) (hx : x ≠ 0) (h0 : -9223372036854775807 ≤ x) (h1 : x ≤ 9223372036854775807) : Ev (fun k => spec_l01Power.f k p (vl p x)) (p ^ vl p x) :=
  l01Power_big h (by have := pow_vl_le h hx; omega) (by have := vl_le_62 h hx h0 h1; omega)
theorem valuation_l {p : Int} (h : IsP p) : ∀ (v : Nat) (u : Int) (n : Int), ¬ p ∣ u → -9223372036854775807 ≤ p ^ v * u → p ^ v * u ≤ 9223372036854775807 → 0 ≤ n → n + v ≤ 1000 → Ev (fun k => impl_valuation.l0 k p (p ^ v * u) n) (n + v) := by
  intro v
  induction v with
  | zero =>
    intro u n hu h0 h1 hn hv
    refine Ev.step (fun k => by rw [impl_valuation.l0]) ?_
    have hne : ¬ Int.tmod (p ^ 0 * u) p = 0 := fun e => by
      rw [tmod_zero_iff, Int.pow_zero, Int.one_mul] at e; exact hu e
    simp only [if_neg h.ne, if_neg hne]
    exact ev_some (by simp)
  | succ v ih =>
    intro u n hu h0 h1 hn hv
    refine Ev.step (fun k => by rw [impl_valuation.l0]) ?_
    have e0 : p ^ (v + 1) * u = p * (p ^ v * u) := by rw [Int.pow_succ, Int.mul_comm (p ^ v) p, Int.mul_assoc]
    have hd : Int.tmod (p ^ (v + 1) * u) p = 0 := by rw [tmod_zero_iff, e0]; exact Int.dvd_mul_right _ _
    have e1 : Int.tdiv (p ^ (v + 1) * u) p = p ^ v * u := by rw [e0]; exact tdiv_mul_left h.ne
    have hb := tdiv_bounds (n := p ^ (v + 1) * u) (m := p)
    rw [e1] at hb
    have e2 : wrap64 (p ^ v * u) = p ^ v * u := wrap_id (by omega) (by omega)
    have e3 : wrap64 (n + 1) = n + 1 := wrap_id (by omega) (by omega)
    simp only [if_neg h.ne, if_pos hd, e1, e2, e3]
    exact ev_eq (ih u (n + 1) hu (by omega) (by omega) (by omega) (by omega)) (by omega)
theorem valuation_ev {p : Int} (h : IsP p) {x : Int} (hx : x ≠ 0) (h0 : -9223372036854775807 ≤ x) (h1 : x ≤ 9223372036854775807) : Ev (fun k => impl_valuation.f k p x) (vl p x) := by
  unfold impl_valuation.f
  simp only [if_neg hx]
  obtain ⟨u, hu, hnd, _⟩ := vl_split h x hx
  have hv := vl_le_62 h hx h0 h1
  have := valuation_l h (vl p x) u 0 hnd (by omega) (by omega) (by omega) (by omega)
  rw [← hu, Int.zero_add] at this
  exact this
theorem valuation_zero (k : Nat) (p : Int) : impl_valuation.f k p 0 = some 1000 := by unfold impl_valuation.f; rw [if_pos rfl]
theorem valuation_zero_ev (p : Int) : Ev (fun k => impl_valuation.f k p 0) 1000 := ⟨0, fun k _ => valuation_zero k p⟩
/-- Of every number: 1000 for 0. -/
def vx (p x : Int) : Int := if x = 0 then 1000 else vl p x
theorem valuation_any {p : Int} (h : IsP p) {x : Int} (h0 : -9223372036854775807 ≤ x) (h1 : x ≤ 9223372036854775807) : Ev (fun k => impl_valuation.f k p x) (vx p x) := by
  unfold vx
  by_cases hx : x = 0
  · subst hx; rw [if_pos rfl]; exact valuation_zero_ev p
  · rw [if_neg hx]; exact valuation_ev h hx h0 h1
theorem l01Val_l {p : Int} (h : IsP p) : ∀ (v : Nat) (u : Int) (n : Int), ¬ p ∣ u → -9223372036854775807 ≤ p ^ v * u → p ^ v * u ≤ 9223372036854775807 → 0 ≤ n → n + v ≤ 1000 → Ev (fun k => spec_l01Val.l0 k p (p ^ v * u) n) (n + v) := by
  intro v
  induction v with
  | zero =>
    intro u n hu h0 h1 hn hv
    refine Ev.step (fun k => by rw [spec_l01Val.l0]) ?_
    have hne : ¬ Int.tmod (p ^ 0 * u) p = 0 := fun e => by
      rw [tmod_zero_iff, Int.pow_zero, Int.one_mul] at e; exact hu e
    simp only [if_neg h.ne, if_neg hne]
    exact ev_some (by simp)
  | succ v ih =>
    intro u n hu h0 h1 hn hv
    refine Ev.step (fun k => by rw [spec_l01Val.l0]) ?_
    have e0 : p ^ (v + 1) * u = p * (p ^ v * u) := by rw [Int.pow_succ, Int.mul_comm (p ^ v) p, Int.mul_assoc]
    have hd : Int.tmod (p ^ (v + 1) * u) p = 0 := by rw [tmod_zero_iff, e0]; exact Int.dvd_mul_right _ _
    have e1 : Int.tdiv (p ^ (v + 1) * u) p = p ^ v * u := by rw [e0]; exact tdiv_mul_left h.ne
    have hb := tdiv_bounds (n := p ^ (v + 1) * u) (m := p)
    rw [e1] at hb
    have e2 : wrap64 (p ^ v * u) = p ^ v * u := wrap_id (by omega) (by omega)
    have e3 : wrap64 (n + 1) = n + 1 := wrap_id (by omega) (by omega)
    simp only [if_neg h.ne, if_pos hd, e1, e2, e3]
    exact ev_eq (ih u (n + 1) hu (by omega) (by omega) (by omega) (by omega)) (by omega)
theorem l01Val_ev {p : Int} (h : IsP p) {x : Int} (hx : x ≠ 0) (h0 : -9223372036854775807 ≤ x) (h1 : x ≤ 9223372036854775807) : Ev (fun k => spec_l01Val.f k p x) (vl p x) := by
  unfold spec_l01Val.f
  obtain ⟨u, hu, hnd, _⟩ := vl_split h x hx
  have hv := vl_le_62 h hx h0 h1
  have := l01Val_l h (vl p x) u 0 hnd (by omega) (by omega) (by omega) (by omega)
  rw [← hu, Int.zero_add] at this
  exact this
theorem mod_ev {n m : Int} (hm : 0 < m) (hm' : m ≤ 4611686018427387904) : impl_mod.f n m = some (n % m) := by
  unfold impl_mod.f
  have hb := mod_between (n := n) hm
  rw [if_neg (show ¬ m = 0 by omega), wrap_id (by omega) (by omega), mod_eq hm]
theorem IsBall_ev {p l t d : Int} (hl : -9223372036854775808 ≤ l ∧ l ≤ 9223372036854775807) (hd : -9223372036854775808 ≤ d ∧ d ≤ 9223372036854775807) :
    Ev (fun k => impl_IsBall.f k p l t d) (decide (IsP p ∧ Bal p l t d)) := by
  unfold impl_IsBall.f
  simp only [isPrime_eq, isLevel_eq, Option.bind_some]
  have bad : ∀ {c : Prop} [Decidable c], ¬ c → Ev (fun k => impl_IsBall.j0 k p true l t d) (decide c) := by
    intro c _ hc
    refine Ev.step (fun k => by rw [impl_IsBall.j0]) ?_
    simp only [if_true]
    exact ev_some (by simp [hc])
  by_cases hp : IsP p
  · simp only [hp, decide_true, if_true]
    by_cases h1 : -6 ≤ l ∧ l ≤ 6
    · simp only [h1, decide_true, if_true, and_self]
      by_cases h2 : d < 0
      · simp only [if_pos h2]
        exact bad (by unfold Bal; omega)
      · simp only [if_neg h2]
        by_cases h3 : d > 6
        · simp only [h3, decide_true]
          exact bad (by unfold Bal; omega)
        · simp only [h3, decide_false]
          refine Ev.step (fun k => by rw [impl_IsBall.j0]) ?_
          have e : wrap64 (l + d) = l + d := wrap_id (by omega) (by omega)
          simp only [if_neg Bool.false_ne_true, e]
          by_cases h4 : l + d ≤ 0
          · simp only [if_pos h4]
            by_cases h5 : t = 0
            · simp only [if_pos h5]
              exact ev_dec (by rw [Bal_low h4]; simp [hp, h5]; omega)
            · simp only [if_neg h5]
              exact ev_dec (by rw [Bal_low h4]; simp [h5])
          · simp only [if_neg h4]
            have hpw := pow_pos' hp (l + d).toNat
            by_cases h5 : t ≥ 0
            · simp only [if_pos h5]
              rw [bnd (power_ev hp (by omega))]
              by_cases h6 : t < p ^ (l + d).toNat
              · simp only [if_pos h6]
                by_cases h7 : d = 0
                · simp only [if_pos h7]
                  exact ev_dec (by rw [Bal_high h4]; simp [hp, h7] at h6 ⊢; omega)
                · simp only [if_neg h7, if_neg hp.ne]
                  refine ev_dec ?_
                  rw [Bal_high h4]
                  by_cases h8 : p ∣ t <;> simp [hp, h7, tmod_zero_iff, h8] <;> omega
              · simp only [if_neg h6]
                exact ev_dec (by rw [Bal_high h4]; simp [hp]; omega)
            · simp only [if_neg h5]
              exact ev_dec (by rw [Bal_high h4]; simp [hp]; omega)
    · simp only [h1, decide_false, if_neg Bool.false_ne_true]
      exact bad (by unfold Bal; omega)
  · simp only [hp, decide_false, if_neg Bool.false_ne_true]
    exact bad (by simp)
theorem l01Is_ev {p l t d : Int} (hl : -9223372036854775808 ≤ l ∧ l ≤ 9223372036854775807) (hd : -9223372036854775808 ≤ d ∧ d ≤ 9223372036854775807) :
    Ev (fun k => spec_l01Is.f k p l t d) (decide (IsP p ∧ Bal p l t d)) := by
  unfold spec_l01Is.f
  simp only [l01Prime_eq, l01In_eq, Option.bind_some]
  have bad : ∀ {c : Prop} [Decidable c], ¬ c → Ev (fun k => spec_l01Is.j0 k p true l t d) (decide c) := by
    intro c _ hc
    refine Ev.step (fun k => by rw [spec_l01Is.j0]) ?_
    simp only [if_true]
    exact ev_some (by simp [hc])
  by_cases hp : IsP p
  · simp only [hp, decide_true, if_true]
    by_cases h1 : -6 ≤ l ∧ l ≤ 6
    · simp only [h1, decide_true, if_true, and_self]
      by_cases h2 : 0 ≤ d ∧ d ≤ 6
      · simp only [h2, decide_true, and_self, Bool.not_true]
        refine Ev.step (fun k => by rw [spec_l01Is.j0]) ?_
        have e : wrap64 (l + d) = l + d := wrap_id (by omega) (by omega)
        simp only [if_neg Bool.false_ne_true, e]
        by_cases h4 : l + d ≤ 0
        · simp only [if_pos h4]
          by_cases h5 : t = 0
          · simp only [if_pos h5]
            exact ev_dec (by rw [Bal_low h4]; simp [hp, h5]; omega)
          · simp only [if_neg h5]
            exact ev_dec (by rw [Bal_low h4]; simp [h5])
        · simp only [if_neg h4]
          have hpw := pow_pos' hp (l + d).toNat
          have hpw2 := pow_le_22 hp (n := (l + d).toNat) (by omega)
          rw [bnd (l01Power_ev hp (by omega))]
          have e2 : wrap64 (p ^ (l + d).toNat - 1) = p ^ (l + d).toNat - 1 := wrap_id (by omega) (by omega)
          simp only [l01In_eq, Option.bind_some, e2]
          by_cases h6 : 0 ≤ t ∧ t ≤ p ^ (l + d).toNat - 1
          · simp only [h6, decide_true, if_true, and_self]
            by_cases h7 : d = 0
            · simp only [if_pos h7]
              exact ev_dec (by rw [Bal_high h4]; simp [hp, h7] at h6 ⊢; omega)
            · simp only [if_neg h7, if_neg hp.ne]
              refine ev_dec ?_
              rw [Bal_high h4]
              by_cases h8 : p ∣ t <;> simp [hp, h7, tmod_zero_iff, h8] <;> omega
          · simp only [h6, decide_false, if_neg Bool.false_ne_true]
            exact ev_dec (by rw [Bal_high h4]; simp [hp]; omega)
      · simp only [h2, decide_false, Bool.not_false]
        exact bad (by unfold Bal; omega)
    · simp only [h1, decide_false, if_neg Bool.false_ne_true]
      exact bad (by unfold Bal; omega)
  · simp only [hp, decide_false, if_neg Bool.false_ne_true]
    exact bad (by simp)
def BallOk (p : Int) (b : S27) : Prop := Bal p b.f0 b.f1 b.f2
instance (p : Int) (b : S27) : Decidable (BallOk p b) := by unfold BallOk; infer_instance
def BallWf (b : S27) : Prop := (-9223372036854775808 ≤ b.f0 ∧ b.f0 ≤ 9223372036854775807) ∧ (-9223372036854775808 ≤ b.f2 ∧ b.f2 ≤ 9223372036854775807)
theorem rd_ball_at (pre : List S27) (b : S27) (ys : List S27) : rd_T27 (pre ++ b :: ys) (pre.length : Int) = b := by
  unfold rd_T27
  simp [List.getD_eq_getElem?_getD]
theorem l01Code_l {p : Int} (hp : IsP p) : ∀ (ys pre : List S27), (pre ++ ys).length ≤ 1000 → (∀ b ∈ ys, BallWf b) → Ev (fun k => spec_l01Code.l0 k p (pre ++ ys) pre.length) (if ∀ b ∈ ys, BallOk p b then 0 else 1) := by
  intro ys
  induction ys with
  | nil =>
    intro pre _ _
    refine Ev.step (fun k => by rw [spec_l01Code.l0]) ?_
    simp only [List.append_nil, if_neg (Int.lt_irrefl _)]
    exact ev_some (by simp)
  | cons b ys ih =>
    intro pre hl hw
    refine Ev.step (fun k => by rw [spec_l01Code.l0]) ?_
    have hl' : (pre ++ b :: ys).length = pre.length + (ys.length + 1) := by simp
    have h1 : (pre.length : Int) < ((pre ++ b :: ys).length : Int) := by omega
    simp only [if_pos h1, if_pos (show (0 : Int) ≤ (pre.length : Int) by omega), rd_ball_at]
    have hb := hw b (by simp)
    rw [bnd (l01Is_ev hb.1 hb.2)]
    by_cases hB : Bal p b.f0 b.f1 b.f2
    · simp only [hp, hB, and_self, decide_true, if_true]
      have e : wrap64 ((pre.length : Int) + 1) = ((pre ++ [b]).length : Int) := by rw [wrap_id (by omega) (by omega)]; simp
      have := ih (pre ++ [b]) (by simpa using hl) (fun c hc => hw c (by simp [hc]))
      rw [e]
      simp only [List.append_assoc, List.singleton_append] at this
      refine ev_eq this ?_
      have : (∀ c ∈ b :: ys, BallOk p c) ↔ (∀ c ∈ ys, BallOk p c) := by simp [BallOk, hB]
      simp only [this]
    · simp only [hp, hB, and_false, decide_false, if_neg Bool.false_ne_true]
      refine ev_some ?_
      rw [if_neg]
      intro hall
      exact hB (hall b (by simp))
theorem l01Code_ev {p : Int} {ys : List S27} (hl : ys.length ≤ 1000) (hw : ∀ b ∈ ys, BallWf b) : Ev (fun k => spec_l01Code.f k p ys) (if IsP p ∧ ∀ b ∈ ys, BallOk p b then 0 else 1) := by
  unfold spec_l01Code.f
  simp only [l01Prime_eq, Option.bind_some]
  by_cases hp : IsP p
  · simp only [hp, decide_true, if_true, true_and]
    exact l01Code_l hp ys [] (by simpa using hl) hw
  · simp only [hp, decide_false, if_neg Bool.false_ne_true, false_and, if_false]
    exact Ev.now _
theorem l01Code1 {p l t d : Int} (hl : -9223372036854775808 ≤ l ∧ l ≤ 9223372036854775807) (hd : -9223372036854775808 ≤ d ∧ d ≤ 9223372036854775807) :
    Ev (fun k => spec_l01Code.f k p [⟨l, t, d⟩]) (if IsP p ∧ Bal p l t d then 0 else 1) := by
  refine ev_eq (l01Code_ev (by simp) (by intro b hb; simp at hb; subst hb; exact ⟨hl, hd⟩)) ?_
  simp [BallOk]
theorem l01Code2 {p l t d l' t' d' : Int} (hl : -9223372036854775808 ≤ l ∧ l ≤ 9223372036854775807) (hd : -9223372036854775808 ≤ d ∧ d ≤ 9223372036854775807)
    (hl' : -9223372036854775808 ≤ l' ∧ l' ≤ 9223372036854775807) (hd' : -9223372036854775808 ≤ d' ∧ d' ≤ 9223372036854775807) :
    Ev (fun k => spec_l01Code.f k p [⟨l, t, d⟩, ⟨l', t', d'⟩]) (if IsP p ∧ Bal p l t d ∧ Bal p l' t' d' then 0 else 1) := by
  refine ev_eq (l01Code_ev (by simp) (by intro b hb; simp at hb; rcases hb with rfl | rfl; exact ⟨hl, hd⟩; exact ⟨hl', hd'⟩)) ?_
  simp [BallOk]
theorem areBalls_l {p : Int} (hp : IsP p) : ∀ (ys pre : List S27), (pre ++ ys).length ≤ 1000 → (∀ b ∈ ys, BallWf b) → Ev (fun k => impl_areBalls.l0 k p (pre ++ ys) ((pre ++ ys).length : Int) pre.length) (decide (∀ b ∈ ys, BallOk p b)) := by
  intro ys
  induction ys with
  | nil =>
    intro pre _ _
    refine Ev.step (fun k => by rw [impl_areBalls.l0]) ?_
    simp only [List.append_nil, if_neg (Int.lt_irrefl _)]
    simp only [isPrime_eq, Option.bind_some, hp]
    exact ev_some (by simp)
  | cons b ys ih =>
    intro pre hl hw
    refine Ev.step (fun k => by rw [impl_areBalls.l0]) ?_
    have hl' : (pre ++ b :: ys).length = pre.length + (ys.length + 1) := by simp
    have h1 : (pre.length : Int) < ((pre ++ b :: ys).length : Int) := by omega
    simp only [if_pos h1, if_pos (show (0 : Int) ≤ (pre.length : Int) by omega), rd_ball_at]
    have hb := hw b (by simp)
    rw [bnd (IsBall_ev hb.1 hb.2)]
    by_cases hB : Bal p b.f0 b.f1 b.f2
    · simp only [hp, hB, and_self, decide_true, if_true]
      have e : wrap64 ((pre.length : Int) + 1) = ((pre ++ [b]).length : Int) := by rw [wrap_id (by omega) (by omega)]; simp
      have := ih (pre ++ [b]) (by simpa using hl) (fun c hc => hw c (by simp [hc]))
      rw [e]
      simp only [List.append_assoc, List.singleton_append] at this
      refine ev_eq this ?_
      have : (∀ c ∈ b :: ys, BallOk p c) ↔ (∀ c ∈ ys, BallOk p c) := by simp [BallOk, hB]
      simp only [this]
    · simp only [hp, hB, and_false, decide_false, if_neg Bool.false_ne_true]
      refine ev_some ?_
      symm
      rw [decide_eq_false_iff_not]
      intro hall
      exact hB (hall b (by simp))
theorem areBalls_no {p : Int} (hp : ¬ IsP p) : ∀ (ys : List S27), ys.length ≤ 1000 → (∀ b ∈ ys, BallWf b) → Ev (fun k => impl_areBalls.f k p ys) false := by
  intro ys hl hw
  unfold impl_areBalls.f
  refine Ev.step (fun k => by rw [impl_areBalls.l0]) ?_
  cases ys with
  | nil =>
    simp only [List.length_nil, if_neg (show ¬ (0 : Int) < ((0 : Nat) : Int) by omega)]
    simp only [isPrime_eq, Option.bind_some, hp]
    exact ev_some (by simp)
  | cons b ys =>
    have h1 : (0 : Int) < ((b :: ys).length : Int) := by rw [List.length_cons]; omega
    have h2 := rd_ball_at [] b ys
    simp only [List.nil_append, List.length_nil] at h2
    simp only [if_pos h1, if_pos (Int.le_refl 0)]
    have hb := hw b (by simp)
    have h3 : rd_T27 (b :: ys) 0 = b := h2
    rw [h3, bnd (IsBall_ev hb.1 hb.2)]
    simp only [hp, false_and, decide_false, if_neg Bool.false_ne_true]
    exact Ev.now _
theorem areBalls_ev {p : Int} {ys : List S27} (hl : ys.length ≤ 1000) (hw : ∀ b ∈ ys, BallWf b) : Ev (fun k => impl_areBalls.f k p ys) (decide (IsP p ∧ ∀ b ∈ ys, BallOk p b)) := by
  by_cases hp : IsP p
  · unfold impl_areBalls.f
    refine ev_eq (areBalls_l hp ys [] (by simpa using hl) hw) (by simp [hp])
  · refine ev_eq (areBalls_no hp ys hl hw) (by simp [hp])
theorem areBalls2 {p l t d l' t' d' : Int} (hl : -9223372036854775808 ≤ l ∧ l ≤ 9223372036854775807) (hd : -9223372036854775808 ≤ d ∧ d ≤ 9223372036854775807)
    (hl' : -9223372036854775808 ≤ l' ∧ l' ≤ 9223372036854775807) (hd' : -9223372036854775808 ≤ d' ∧ d' ≤ 9223372036854775807) :
    Ev (fun k => impl_areBalls.f k p [⟨l, t, d⟩, ⟨l', t', d'⟩]) (decide (IsP p ∧ Bal p l t d ∧ Bal p l' t' d')) := by
  refine ev_eq (areBalls_ev (by simp) (by intro b hb; simp at hb; rcases hb with rfl | rfl; exact ⟨hl, hd⟩; exact ⟨hl', hd'⟩)) ?_
  simp [BallOk]
theorem rd_at (pre : List Int) (b : Int) (ys : List Int) : rd (pre ++ b :: ys) (pre.length : Int) = b := by
  unfold rd
  simp [List.getD_eq_getElem?_getD]
theorem l01MulMod_eq {a b m : Int} (h0 : 0 < m) (h1 : m ≤ 100000000000) : spec_l01MulMod.f a b m = some (a * b % m) := by
  unfold spec_l01MulMod.f
  have ha := mod_between (n := a) h0
  have hb := mod_between (n := b) h0
  have ea : wrap64 (Int.tmod a m + m) = Int.tmod a m + m := wrap_id (by omega) (by omega)
  have eb : wrap64 (Int.tmod b m + m) = Int.tmod b m + m := wrap_id (by omega) (by omega)
  have a0 := Int.emod_nonneg a (Int.ne_of_gt h0)
  have a1 := Int.emod_lt_of_pos a h0
  have b0 := Int.emod_nonneg b (Int.ne_of_gt h0)
  have b1 := Int.emod_lt_of_pos b h0
  rw [if_neg (Int.ne_of_gt h0)]
  simp only [ea, eb, mod_eq h0]
  rw [Int.tmod_eq_emod_of_nonneg b0, Int.tdiv_eq_ediv_of_nonneg b0]
  have hq0 : 0 ≤ b % m / 1000000 := by omega
  have hq1 : b % m / 1000000 ≤ 100000 := by omega
  have hr0 : 0 ≤ b % m % 1000000 := by omega
  have hr1 : b % m % 1000000 ≤ 1000000 := by omega
  have eq : wrap64 (b % m / 1000000) = b % m / 1000000 := wrap_id (by omega) (by omega)
  rw [eq]
  have p1 : 0 ≤ a % m * (b % m / 1000000) := Int.mul_nonneg a0 hq0
  have p2 : a % m * (b % m / 1000000) ≤ 100000000000 * 100000 := Int.mul_le_mul (by omega) hq1 hq0 (by omega)
  have p3 : 0 ≤ a % m * (b % m % 1000000) := Int.mul_nonneg a0 hr0
  have p4 : a % m * (b % m % 1000000) ≤ 100000000000 * 1000000 := Int.mul_le_mul (by omega) hr1 hr0 (by omega)
  rw [wrap_id (x := a % m * (b % m / 1000000)) (by omega) (by omega), wrap_id (x := a % m * (b % m % 1000000)) (by omega) (by omega)]
  rw [Int.tmod_eq_emod_of_nonneg p1, Int.tmod_eq_emod_of_nonneg p3]
  have c0 := Int.emod_nonneg (a % m * (b % m / 1000000)) (Int.ne_of_gt h0)
  have c1 := Int.emod_lt_of_pos (a % m * (b % m / 1000000)) h0
  have d0 := Int.emod_nonneg (a % m * (b % m % 1000000)) (Int.ne_of_gt h0)
  have d1 := Int.emod_lt_of_pos (a % m * (b % m % 1000000)) h0
  rw [wrap_id (x := a % m * (b % m / 1000000) % m * 1000000) (by omega) (by omega)]
  have e0 : 0 ≤ a % m * (b % m / 1000000) % m * 1000000 := by omega
  rw [Int.tmod_eq_emod_of_nonneg e0]
  have f0 := Int.emod_nonneg (a % m * (b % m / 1000000) % m * 1000000) (Int.ne_of_gt h0)
  have f1 := Int.emod_lt_of_pos (a % m * (b % m / 1000000) % m * 1000000) h0
  rw [wrap_id (by omega) (by omega), Int.tmod_eq_emod_of_nonneg (by omega), mulmod_eq]
theorem l01InvMod_l {n m : Int} (hm : 0 < m) (hm' : m ≤ 1000000000000) : ∀ (k : Nat) (a b : Nat) (x y : Int), b ≤ k → Euc n m a b x y → (a : Int) ≤ 1000000000000 → (b : Int) ≤ 1000000000000 →
    ∃ r, Ev (fun k => spec_l01InvMod.l0 k m a b x y) r ∧ 0 ≤ r ∧ r < m ∧ m ∣ r * n - 1 := by
  intro k
  induction k with
  | zero =>
    intro a b x y hb he ha1 hb1
    obtain rfl : b = 0 := by omega
    have hl := he.last
    have hbd := he.bounds
    refine ⟨x % m, ?_, Int.emod_nonneg _ (Int.ne_of_gt hm), Int.emod_lt_of_pos _ hm, ?_⟩
    · refine Ev.step (fun k => by rw [spec_l01InvMod.l0]) ?_
      have hx := mod_between (n := x) hm
      rw [wrap_id (x := Int.tmod x m + m) (by omega) (by omega), mod_eq hm]
      simp only [Int.natCast_zero, if_true, if_neg (Int.ne_of_gt hm)]
      exact Ev.now _
    · have h1 := dvd_emod_sub x m
      have h2 : x % m * n - 1 = (x % m - x) * n + (x * n - 1) := by rw [Int.sub_mul]; omega
      rw [h2]
      exact Int.dvd_add (Int.dvd_trans h1 (Int.dvd_mul_right _ _)) hl
  | succ k ih =>
    intro a b x y hb he ha1 hb1
    by_cases hz : b = 0
    · exact ih a b x y (by omega) he ha1 hb1
    · have hnx := he.next (by omega)
      obtain ⟨r, hr, h0, h1, h2⟩ := ih b (a % b) y (x - (a / b : Nat) * y) (by have := Nat.mod_lt a (show 0 < b by omega); omega) hnx hb1 (by have := Nat.mod_lt a (show 0 < b by omega); omega)
      refine ⟨r, ?_, h0, h1, h2⟩
      refine Ev.step (fun k => by rw [spec_l01InvMod.l0]) ?_
      suffices hs : wrap64 (Int.tdiv (a : Int) b) = (a / b : Nat) ∧ wrap64 ((a : Int) - wrap64 ((a / b : Nat) * (b : Int))) = (a % b : Nat) ∧ wrap64 (x - wrap64 ((a / b : Nat) * y)) = x - (a / b : Nat) * y by
        simp only [if_neg (show ¬ (b : Int) = 0 by omega), hs.1, hs.2.1, hs.2.2]
        exact hr
      have hbd := he.bounds
      have hbd2 := hnx.bounds
      have hbz : ¬ (b : Int) = 0 := by omega
      have eq : Int.tdiv (a : Int) b = (a / b : Nat) := by rw [Int.tdiv_eq_ediv_of_nonneg (by omega), Int.natCast_ediv]
      have hdm := Nat.div_add_mod a b
      have hle := Nat.div_le_self a b
      have hmod := Nat.mod_le a b
      have hprod : ((a / b : Nat) : Int) * b = a - (a % b : Nat) := by
        have : ((b * (a / b) + a % b : Nat) : Int) = (a : Int) := by rw [hdm]
        rw [Int.natCast_add, Int.natCast_mul, Int.mul_comm (b : Int)] at this
        omega
      rw [eq]
      exact euc_wraps hle hmod hprod (by omega) hm hm' hbd hbd2
theorem l01InvMod_ev {p n : Int} (h : IsP p) {e : Nat} (he : e ≤ 14) (hn : ¬ p ∣ n) :
    ∃ r, Ev (fun k => spec_l01InvMod.f k n (p ^ e)) r ∧ 0 ≤ r ∧ r < p ^ e ∧ p ^ e ∣ r * n - 1 := by
  have h0 := pow_pos' h e
  have h7 := pow_le_seven h (m := e) (n := 14) (by omega)
  have e14 : (7 : Int) ^ 14 = 678223072849 := by decide
  have hb := mod_between (n := n) h0
  have hst := Euc.start (n := n) h0 (coprime_start h hn e)
  have hr0 := Int.emod_nonneg n (Int.ne_of_gt h0)
  have hr1 := Int.emod_lt_of_pos n h0
  obtain ⟨r, hr, a, b, c⟩ := l01InvMod_l h0 (by omega) _ _ _ _ _ (Nat.le_refl _) hst (by omega) (by omega)
  refine ⟨r, ?_, a, b, c⟩
  unfold spec_l01InvMod.f
  simp only [if_neg (Int.ne_of_gt h0)]
  rw [wrap_id (x := Int.tmod n (p ^ e) + p ^ e) (by omega) (by omega), mod_eq h0]
  rw [Int.toNat_of_nonneg hr0, Int.toNat_of_nonneg (by omega)] at hr
  exact hr
/-- The reference's ball of a level with a fraction: x / p^6 is as near to the fraction as the level asks. -/
theorem l01Of_ev {p num den level x : Int} (h : IsP p) (l0 : -6 ≤ level) (l1 : level ≤ 6) (hden : den ≠ 0)
    (n0 : -4000000000000000000 ≤ num ∧ num ≤ 4000000000000000000) (d0 : -4000000000000000000 ≤ den ∧ den ≤ 4000000000000000000)
    (hx : p ^ ((level + 6).toNat + vl p den) ∣ x * den - num * p ^ 6) (hfit : num = 0 ∨ vl p den ≤ vl p num + 6) :
    Ev (fun k => spec_l01Of.f k p num den level) (level, ofMt p level x, (ofMd p level x : Int), true) := by
  unfold spec_l01Of.f
  simp only [l01In_eq, Option.bind_some, show (-6 ≤ level ∧ level ≤ 6) from ⟨l0, l1⟩, and_self, decide_true, if_true]
  by_cases hz : num = 0
  · obtain ⟨h1, h2⟩ := of_low h hden hx (.inl hz) l0
    simp only [if_pos hz, h1, h2]
    exact Ev.now _
  · simp only [if_neg hz]
    have b1 := vl_le_62 h hz (by omega) (by omega)
    have b2 := vl_le_62 h hden (by omega) (by omega)
    rw [bnd (l01Val_ev h hz (by omega) (by omega)), bnd (l01Val_ev h hden (by omega) (by omega))]
    have e1 : wrap64 ((vl p num : Int) - vl p den) = (vl p num : Int) - vl p den := wrap_id (by omega) (by omega)
    have e2 : wrap64 ((vl p den : Int) - vl p num) = (vl p den : Int) - vl p num := wrap_id (by omega) (by omega)
    simp only [e1, e2]
    by_cases hlow : level ≤ (vl p num : Int) - vl p den
    · obtain ⟨h1, h2⟩ := of_low h hden hx (.inr (by omega)) l0
      simp only [if_pos hlow, h1, h2]
      exact Ev.now _
    · have hfit' : vl p den ≤ vl p num + 6 := by rcases hfit with h1 | h1; exact absurd h1 hz; exact h1
      have e3 : mx ((vl p den : Int) - vl p num) 0 = ((vl p den - vl p num : Nat) : Int) := by unfold mx; split <;> omega
      have e4 : mx ((vl p num : Int) - vl p den) 0 = ((vl p num - vl p den : Nat) : Int) := by unfold mx; split <;> omega
      have e5 : wrap64 (level + ((vl p den - vl p num : Nat) : Int)) = level + ((vl p den - vl p num : Nat) : Int) := wrap_id (by omega) (by omega)
      simp only [if_neg hlow, e3, e4, e5, if_neg (show ¬ ((vl p den - vl p num : Nat) : Int) > 6 by omega)]
      obtain ⟨un, hun, hund, _⟩ := vl_split h num hz
      obtain ⟨ud, hud, hudd, _⟩ := vl_split h den hden
      rw [bnd (l01Power_ev h (by omega)), bnd (l01Power_any h hz (by omega) (by omega))]
      simp only [if_neg (pow_ne' h _)]
      rw [bnd (l01Power_any h hden (by omega) (by omega))]
      simp only [if_neg (pow_ne' h _)]
      have q1 : Int.tdiv num (p ^ vl p num) = un := by
        conv => lhs; arg 1; rw [hun]
        exact tdiv_mul_left (pow_ne' h _)
      have q2 : Int.tdiv den (p ^ vl p den) = ud := by
        conv => lhs; arg 1; rw [hud]
        exact tdiv_mul_left (pow_ne' h _)
      have c1 := tdiv_bounds (n := num) (m := p ^ vl p num)
      have c2 := tdiv_bounds (n := den) (m := p ^ vl p den)
      rw [q1] at c1
      rw [q2] at c2
      simp only [q1, q2, wrap_id (x := un) (by omega) (by omega), wrap_id (x := ud) (by omega) (by omega)]
      have h12 := pow_le_seven h (m := (level + ((vl p den - vl p num : Nat) : Int)).toNat) (n := 12) (by omega)
      have e12 : (7 : Int) ^ 12 = 13841287201 := by decide
      have hpp := pow_pos' h (level + ((vl p den - vl p num : Nat) : Int)).toNat
      obtain ⟨inv, hinv, _, _, hid⟩ := l01InvMod_ev h (n := ud) (e := (level + ((vl p den - vl p num : Nat) : Int)).toNat) (by omega) hudd
      rw [bnd hinv]
      simp only [l01MulMod_eq hpp (by omega), Option.bind_some]
      rw [bnd (l01Power_ev h (by omega))]
      have hx' : p ^ ((level + 6).toNat + vl p den) ∣ x * (p ^ vl p den * ud) - p ^ vl p num * un * p ^ 6 := by
        rw [← hun, ← hud]; exact hx
      obtain ⟨h1, h2⟩ := of_high h l0 l1 hund hudd hx' (by omega) hfit' hid
      rw [h1, h2]
      simp only [Int.toNat_natCast]
      exact Ev.now _
/-- It doesn't fit. -/
theorem l01Of_no {p num den level : Int} (h : IsP p) (l0 : -6 ≤ level) (l1 : level ≤ 6) (hden : den ≠ 0) (hnum : num ≠ 0)
    (n0 : -4000000000000000000 ≤ num ∧ num ≤ 4000000000000000000) (d0 : -4000000000000000000 ≤ den ∧ den ≤ 4000000000000000000) (hfit : vl p num + 6 < vl p den) :
    Ev (fun k => spec_l01Of.f k p num den level) (0, 0, 0, false) := by
  unfold spec_l01Of.f
  simp only [l01In_eq, Option.bind_some, show (-6 ≤ level ∧ level ≤ 6) from ⟨l0, l1⟩, and_self, decide_true, if_true, if_neg hnum]
  have b1 := vl_le_62 h hnum (by omega) (by omega)
  have b2 := vl_le_62 h hden (by omega) (by omega)
  rw [bnd (l01Val_ev h hnum (by omega) (by omega)), bnd (l01Val_ev h hden (by omega) (by omega))]
  have e1 : wrap64 ((vl p num : Int) - vl p den) = (vl p num : Int) - vl p den := wrap_id (by omega) (by omega)
  have e2 : wrap64 ((vl p den : Int) - vl p num) = (vl p den : Int) - vl p num := wrap_id (by omega) (by omega)
  have e3 : mx ((vl p den : Int) - vl p num) 0 = ((vl p den - vl p num : Nat) : Int) := by unfold mx; split <;> omega
  simp only [e1, e2, e3, if_neg (show ¬ level ≤ (vl p num : Int) - vl p den by omega), if_pos (show ((vl p den - vl p num : Nat) : Int) > 6 by omega)]
  exact Ev.now _
theorem l01Of_out {p num den level : Int} (hl : ¬ (-6 ≤ level ∧ level ≤ 6)) : Ev (fun k => spec_l01Of.f k p num den level) (0, 0, 0, false) := by
  unfold spec_l01Of.f
  simp only [l01In_eq, Option.bind_some, hl, decide_false, if_neg Bool.false_ne_true]
  exact Ev.now _
/-- Over a power of p of at most 6. -/
theorem l01Of_pow {p t d level : Int} (h : IsP p) (hd : 0 ≤ d ∧ d ≤ 6) (n0 : -4000000000000000000 ≤ t ∧ t ≤ 4000000000000000000) :
    Ev (fun k => spec_l01Of.f k p t (p ^ d.toNat) level) (if -6 ≤ level ∧ level ≤ 6 then (level, ofMt p level (mk p t d), (ofMd p level (mk p t d) : Int), true) else (0, 0, 0, false)) := by
  by_cases hl : -6 ≤ level ∧ level ≤ 6
  · rw [if_pos hl]
    have h0 := pow_pos' h d.toNat
    have h1 := pow_le_22 h (n := d.toNat) (by omega)
    refine l01Of_ev h hl.1 hl.2 (by omega) n0 (by omega) ?_ (.inr (by rw [vl_pow h]; omega))
    have e : mk p t d * p ^ d.toNat - t * p ^ 6 = 0 := by
      unfold mk
      rw [Int.mul_assoc, ← Int.pow_add]
      have : (6 - d).toNat + d.toNat = 6 := by omega
      rw [this]; omega
    rw [e]; exact Int.dvd_zero _
  · rw [if_neg hl]
    exact l01Of_out hl
theorem mk_bound {p t d : Int} (h : IsP p) (hd : 0 ≤ d) (ht : -13841287201 ≤ t ∧ t ≤ 13841287201) : -1628413597910449 ≤ mk p t d ∧ mk p t d ≤ 1628413597910449 := by
  unfold mk
  have h0 := pow_pos' h (6 - d).toNat
  have h1 := pow_le_seven h (m := (6 - d).toNat) (n := 6) (by omega)
  have e : (7 : Int) ^ 6 = 117649 := by decide
  rw [e] at h1
  rcases Int.le_total 0 t with h2 | h2
  · have a := Int.mul_le_mul ht.2 h1 (Int.le_of_lt h0) (by omega)
    have b := Int.mul_nonneg h2 (Int.le_of_lt h0)
    omega
  · have a := Int.mul_le_mul (show -t ≤ 13841287201 by omega) h1 (Int.le_of_lt h0) (by omega)
    have b := Int.mul_nonneg (show 0 ≤ -t by omega) (Int.le_of_lt h0)
    rw [Int.neg_mul] at a b
    omega
theorem mark_ev {p l t d : Int} (h : IsP p) (hb : Bal p l t d) : Ev (fun k => impl_mark.f k p l t d) (mk p t d) := by
  unfold impl_mark.f
  have hs := hb.small h
  have hd : 0 ≤ d ∧ d ≤ 6 := by unfold Bal at hb; omega
  have hm := mk_bound h hd.1 (t := t) (by omega)
  have e : wrap64 (6 - d) = 6 - d := wrap_id (by omega) (by omega)
  simp only [e]
  rw [bnd (power_ev h (by omega))]
  exact ev_some (wrap_id (x := mk p t d) (by omega) (by omega))
theorem mark_le {p l t d : Int} (h : IsP p) (hb : Bal p l t d) : 0 ≤ mk p t d ∧ mk p t d < 13841287201 := by
  have hm := hb.mark h
  have h1 := pow_le_seven h (m := (l + 6).toNat) (n := 12) (by unfold Bal at hb; omega)
  have e : (7 : Int) ^ 12 = 13841287201 := by decide
  omega
theorem ofMark_ev {p level x : Int} (h : IsP p) (hx : -4000000000000000000 ≤ x ∧ x ≤ 4000000000000000000) :
    Ev (fun k => impl_ofMark.f k p level x) (if -6 ≤ level ∧ level ≤ 6 then (level, ofMt p level x, (ofMd p level x : Int), true) else (0, 0, 0, false)) := by
  unfold impl_ofMark.f
  simp only [isLevel_eq, Option.bind_some]
  by_cases hl : -6 ≤ level ∧ level ≤ 6
  · have e : wrap64 (level + 6) = level + 6 := wrap_id (by omega) (by omega)
    simp only [hl, and_self, decide_true, if_true, e]
    rw [bnd (power_ev h (by omega))]
    have h0 := pow_pos' h (level + 6).toNat
    have h1 := pow_le_seven h (m := (level + 6).toNat) (n := 12) (by omega)
    have e12 : (7 : Int) ^ 12 = 13841287201 := by decide
    simp only [mod_ev h0 (by omega), Option.bind_some]
    have y0 := Int.emod_nonneg x (Int.ne_of_gt h0)
    have y1 := Int.emod_lt_of_pos x h0
    rw [bnd (valuation_any h (by omega) (by omega))]
    have hvx : vx p (x % p ^ (level + 6).toNat) ≤ 1000 ∧ 0 ≤ vx p (x % p ^ (level + 6).toNat) := by
      unfold vx
      split
      · omega
      · rename_i hz
        have := vl_le_62 h hz (by omega) (by omega)
        omega
    have e2 : wrap64 (6 - vx p (x % p ^ (level + 6).toNat)) = 6 - vx p (x % p ^ (level + 6).toNat) := wrap_id (by omega) (by omega)
    have e3 : mx (6 - vx p (x % p ^ (level + 6).toNat)) 0 = (ofMd p level x : Int) := by
      unfold vx ofMd mx
      by_cases hz : x % p ^ (level + 6).toNat = 0
      · simp only [if_pos hz]; omega
      · simp only [if_neg hz]; split <;> omega
    have hd6 := ofMd_le p level x
    have e4 : wrap64 (6 - (ofMd p level x : Int)) = 6 - (ofMd p level x : Int) := wrap_id (by omega) (by omega)
    simp only [e2, e3, e4]
    rw [bnd (power_ev h (by omega))]
    have e5 : (6 - (ofMd p level x : Int)).toNat = 6 - ofMd p level x := by omega
    simp only [if_neg (pow_ne' h _), e5]
    have hq := tdiv_bounds (n := x % p ^ (level + 6).toNat) (m := p ^ (6 - ofMd p level x))
    rw [wrap_id (by omega) (by omega)]
    have e6 : Int.tdiv (x % p ^ (level + 6).toNat) (p ^ (6 - ofMd p level x)) = ofMt p level x := by
      unfold ofMt
      exact Int.tdiv_eq_ediv_of_nonneg y0
    rw [e6]
    exact Ev.now _
  · simp only [hl, decide_false, if_neg Bool.false_ne_true, if_false]
    exact Ev.now _
def ParR (p l t d : Int) : Int × Int × Int × Bool := if -6 ≤ l - 1 ∧ l - 1 ≤ 6 then (l - 1, ofMt p (l - 1) (mk p t d), (ofMd p (l - 1) (mk p t d) : Int), true) else (0, 0, 0, false)
theorem l01Parent_ev {p l t d : Int} (h : IsP p) (hb : Bal p l t d) : Ev (fun k => spec_l01Parent.f k p l t d) (ParR p l t d) := by
  unfold spec_l01Parent.f ParR
  have hs := hb.small h
  have hr : -6 ≤ l ∧ l ≤ 6 ∧ 0 ≤ d ∧ d ≤ 6 := by unfold Bal at hb; omega
  have e : wrap64 (l - 1) = l - 1 := wrap_id (by omega) (by omega)
  simp only [e]
  rw [bnd (l01Power_ev h (by omega)), bnd (l01Of_pow h (by omega) (by omega))]
  exact Ev.now _
def fitR (r : Int × Int × Int × Bool) : Int × Int × Int × Int := if r.2.2.2 = true then (r.1, r.2.1, r.2.2.1, 0) else (0, 0, 0, 3)
theorem fitted_eq (r : Int × Int × Int × Bool) : impl_fitted.f r.1 r.2.1 r.2.2.1 r.2.2.2 = some (fitR r) := by
  unfold impl_fitted.f fitR
  split <;> rfl
theorem mk_neg (p t d : Int) : mk p (-t) d = -mk p t d := by unfold mk; rw [Int.neg_mul]
def OppR (p l t d : Int) : Int × Int × Int × Int := if IsP p ∧ Bal p l t d then (l, ofMt p l (-mk p t d), (ofMd p l (-mk p t d) : Int), 0) else (0, 0, 0, 1)
theorem implOppositeBall_ev {p l t d : Int} (hl : -9223372036854775808 ≤ l ∧ l ≤ 9223372036854775807) (hd : -9223372036854775808 ≤ d ∧ d ≤ 9223372036854775807) : Ev (fun k => impl_OppositeBall.f k p l t d) (OppR p l t d) := by
  unfold impl_OppositeBall.f OppR
  rw [bnd (IsBall_ev hl hd)]
  by_cases h : IsP p ∧ Bal p l t d
  · have hm := mark_le h.1 h.2
    have hr : -6 ≤ l ∧ l ≤ 6 := by have := h.2; unfold Bal at this; omega
    simp only [h, and_self, decide_true, if_true]
    rw [bnd (mark_ev h.1 h.2), wrap_id (by omega) (by omega), bnd (ofMark_ev h.1 (by omega))]
    simp only [hr, and_self, if_true, impl_fitted.f, Option.bind_some]
    exact Ev.now _
  · simp only [h, decide_false, if_neg Bool.false_ne_true, if_false]; exact Ev.now _
theorem specOppositeBall_ev {p l t d : Int} (hl : -9223372036854775808 ≤ l ∧ l ≤ 9223372036854775807) (hd : -9223372036854775808 ≤ d ∧ d ≤ 9223372036854775807) : Ev (fun k => spec_OppositeBall.f k p l t d) (OppR p l t d) := by
  unfold spec_OppositeBall.f OppR
  rw [bnd (l01Code1 hl hd)]
  by_cases h : IsP p ∧ Bal p l t d
  · have hs := h.2.small h.1
    have hr : -6 ≤ l ∧ l ≤ 6 ∧ 0 ≤ d ∧ d ≤ 6 := by have := h.2; unfold Bal at this; omega
    simp only [h, and_self, if_true]
    rw [bnd (l01Power_ev h.1 (by omega)), wrap_id (by omega) (by omega), bnd (l01Of_pow h.1 (by omega) (by omega))]
    simp only [mk_neg, show (-6 ≤ l ∧ l ≤ 6) from ⟨hr.1, hr.2.1⟩, and_self, if_true]
    exact Ev.now _
  · simp only [h, if_false, if_neg (show ¬ (1 : Int) = 0 by omega)]; exact Ev.now _
/-- Two centres over the greater power of p. -/
theorem over_max {p ta da tb db : Int} (h : IsP p) (ha : 0 ≤ da ∧ da ≤ 6) (hb : 0 ≤ db ∧ db ≤ 6) (ta0 : 0 ≤ ta ∧ ta ≤ 13841287201) (tb0 : 0 ≤ tb ∧ tb ≤ 13841287201) :
    wrap64 (mx da db - da) = mx da db - da ∧ wrap64 (mx da db - db) = mx da db - db ∧ 0 ≤ mx da db ∧ mx da db ≤ 6 ∧ da ≤ mx da db ∧ db ≤ mx da db ∧
    wrap64 (ta * p ^ (mx da db - da).toNat) = ta * p ^ (mx da db - da).toNat ∧ wrap64 (tb * p ^ (mx da db - db).toNat) = tb * p ^ (mx da db - db).toNat ∧
    (0 ≤ ta * p ^ (mx da db - da).toNat ∧ ta * p ^ (mx da db - da).toNat ≤ 1628413597910449) ∧ (0 ≤ tb * p ^ (mx da db - db).toNat ∧ tb * p ^ (mx da db - db).toNat ≤ 1628413597910449) ∧
    mk p (ta * p ^ (mx da db - da).toNat) (mx da db) = mk p ta da ∧ mk p (tb * p ^ (mx da db - db).toNat) (mx da db) = mk p tb db := by
  have hm : 0 ≤ mx da db ∧ mx da db ≤ 6 ∧ da ≤ mx da db ∧ db ≤ mx da db := by unfold mx; split <;> omega
  have key : ∀ {t : Int} {e : Int}, 0 ≤ t ∧ t ≤ 13841287201 → e ≤ 6 → 0 ≤ t * p ^ e.toNat ∧ t * p ^ e.toNat ≤ 1628413597910449 := by
    intro t e ht he
    have h0 := pow_pos' h e.toNat
    have h1 := pow_le_seven h (m := e.toNat) (n := 6) (by omega)
    have e6 : (7 : Int) ^ 6 = 117649 := by decide
    rw [e6] at h1
    have a := Int.mul_le_mul ht.2 h1 (Int.le_of_lt h0) (by omega)
    exact ⟨Int.mul_nonneg ht.1 (Int.le_of_lt h0), by omega⟩
  have ka := key ta0 (e := mx da db - da) (by omega)
  have kb := key tb0 (e := mx da db - db) (by omega)
  have kk : ∀ {t e : Int}, 0 ≤ e → e ≤ mx da db → mk p (t * p ^ (mx da db - e).toNat) (mx da db) = mk p t e := by
    intro t e he0 he
    unfold mk
    rw [Int.mul_assoc, ← Int.pow_add]
    congr 2
    omega
  exact ⟨wrap_id (by omega) (by omega), wrap_id (by omega) (by omega), hm.1, hm.2.1, hm.2.2.1, hm.2.2.2, wrap_id (by omega) (by omega), wrap_id (by omega) (by omega), ka, kb, kk ha.1 hm.2.2.1, kk hb.1 hm.2.2.2⟩
theorem mk_add (p s t d : Int) : mk p (s + t) d = mk p s d + mk p t d := by unfold mk; rw [Int.add_mul]
def AddR (p la ta da lb tb db : Int) : Int × Int × Int × Int := if IsP p ∧ Bal p la ta da ∧ Bal p lb tb db then (mn la lb, ofMt p (mn la lb) (mk p ta da + mk p tb db), (ofMd p (mn la lb) (mk p ta da + mk p tb db) : Int), 0) else (0, 0, 0, 1)
theorem implAddBalls_ev {p l t d l' t' d' : Int} (hl : -9223372036854775808 ≤ l ∧ l ≤ 9223372036854775807) (hd : -9223372036854775808 ≤ d ∧ d ≤ 9223372036854775807)
    (hl' : -9223372036854775808 ≤ l' ∧ l' ≤ 9223372036854775807) (hd' : -9223372036854775808 ≤ d' ∧ d' ≤ 9223372036854775807) : Ev (fun k => impl_AddBalls.f k p l t d l' t' d') (AddR p l t d l' t' d') := by
  unfold impl_AddBalls.f AddR
  rw [bnd (areBalls2 hl hd hl' hd')]
  by_cases h : IsP p ∧ Bal p l t d ∧ Bal p l' t' d'
  · have hm := mark_le h.1 h.2.1
    have hm' := mark_le h.1 h.2.2
    have hr : -6 ≤ mn l l' ∧ mn l l' ≤ 6 := by
      have h1 := h.2.1; have h2 := h.2.2; unfold Bal at h1 h2; unfold mn; split <;> omega
    simp only [h, and_self, decide_true, if_true]
    rw [bnd (mark_ev h.1 h.2.1), bnd (mark_ev h.1 h.2.2), wrap_id (by omega) (by omega), bnd (ofMark_ev h.1 (by omega))]
    simp only [hr, and_self, if_true, impl_fitted.f, Option.bind_some]
    exact Ev.now _
  · simp only [h, decide_false, if_neg Bool.false_ne_true, if_false]; exact Ev.now _
theorem specAddBalls_ev {p l t d l' t' d' : Int} (hl : -9223372036854775808 ≤ l ∧ l ≤ 9223372036854775807) (hd : -9223372036854775808 ≤ d ∧ d ≤ 9223372036854775807)
    (hl' : -9223372036854775808 ≤ l' ∧ l' ≤ 9223372036854775807) (hd' : -9223372036854775808 ≤ d' ∧ d' ≤ 9223372036854775807) : Ev (fun k => spec_AddBalls.f k p l t d l' t' d') (AddR p l t d l' t' d') := by
  unfold spec_AddBalls.f AddR
  rw [bnd (l01Code2 hl hd hl' hd')]
  by_cases h : IsP p ∧ Bal p l t d ∧ Bal p l' t' d'
  · have hs := h.2.1.small h.1
    have hs' := h.2.2.small h.1
    have hr : -6 ≤ mn l l' ∧ mn l l' ≤ 6 := by
      have h1 := h.2.1; have h2 := h.2.2; unfold Bal at h1 h2; unfold mn; split <;> omega
    have hdd : (0 ≤ d ∧ d ≤ 6) ∧ 0 ≤ d' ∧ d' ≤ 6 := by have h1 := h.2.1; have h2 := h.2.2; unfold Bal at h1 h2; omega
    obtain ⟨e1, e2, m0, m1, m2, m3, e3, e4, b1, b2, k1, k2⟩ := over_max h.1 hdd.1 hdd.2 hs hs'
    simp only [h, and_self, if_true, e1, e2]
    rw [bnd (l01Power_ev h.1 (by omega)), bnd (l01Power_ev h.1 (by omega)), bnd (l01Power_ev h.1 (by omega))]
    rw [e3, e4, wrap_id (by omega) (by omega), bnd (l01Of_pow h.1 ⟨m0, m1⟩ (by omega))]
    simp only [mk_add, k1, k2, hr, and_self, if_true]
    exact Ev.now _
  · simp only [h, if_false, if_neg (show ¬ (1 : Int) = 0 by omega)]; exact Ev.now _
def DigR (p l t d : Int) : List Int × Int := if IsP p ∧ Bal p l t d then (digs p t (l + d).toNat, 0) else ([], 1)
theorem digs_length (p t : Int) (n : Nat) : (digs p t n).length = n := by
  induction n generalizing t with
  | zero => rfl
  | succ n ih => simp [digs, ih]
theorem DigR_length (p l t d : Int) : (DigR p l t d).1.length ≤ 12 := by
  unfold DigR
  split
  · rename_i h
    have := h.2
    unfold Bal at this
    simp only [digs_length]; omega
  · simp
theorem digits_l {p : Int} (h : IsP p) (n : Nat) (hn : n ≤ 12) : ∀ (m i : Nat) (acc : List Int) (t : Int), i + m = n → acc.length + m ≤ 1000 → 0 ≤ t → t ≤ 13841287201 → Ev (fun k => impl_DigitsOfBall.l0 k p acc t n i) (acc ++ digs p t m, 0) := by
  intro m
  induction m with
  | zero =>
    intro i acc t hi ha h0 h1
    refine Ev.step (fun k => by rw [impl_DigitsOfBall.l0]) ?_
    simp only [if_neg (show ¬ (i : Int) < (n : Int) by omega), digs, List.append_nil]
    exact Ev.now _
  | succ m ih =>
    intro i acc t hi ha h0 h1
    refine Ev.step (fun k => by rw [impl_DigitsOfBall.l0]) ?_
    have hp := h.two_le
    have e1 : Int.tmod t p = t % p := Int.tmod_eq_emod_of_nonneg h0
    have hq := tdiv_bounds (n := t) (m := p)
    have e2 : Int.tdiv t p = t / p := Int.tdiv_eq_ediv_of_nonneg h0
    have hq0 : 0 ≤ t / p := Int.ediv_nonneg h0 (by omega)
    rw [e2] at hq
    have e3 : wrap64 (t / p) = t / p := wrap_id (by omega) (by omega)
    have e4 : wrap64 ((i : Int) + 1) = ((i + 1 : Nat) : Int) := by rw [wrap_id (by omega) (by omega)]; omega
    have hq9 : acc.length < 17592186044416 := by omega
    simp only [if_pos (show (i : Int) < (n : Int) by omega), if_neg h.ne, e1, e2, e3, e4]
    simp only [if_pos hq9]
    have hz : (acc ++ [t % p]).length + m ≤ 1000 := by rw [List.length_append, List.length_singleton]; omega
    have hy : t / p ≤ 13841287201 := by omega
    have hx := ih (i + 1) (acc ++ [t % p]) (t / p) (by omega) hz hq0 hy
    rw [show digs p t (m + 1) = t % p :: digs p (t / p) m from rfl]
    rw [List.append_assoc] at hx
    exact hx
theorem implDigits_ev {p l t d : Int} (hl : -9223372036854775808 ≤ l ∧ l ≤ 9223372036854775807) (hd : -9223372036854775808 ≤ d ∧ d ≤ 9223372036854775807) : Ev (fun k => impl_DigitsOfBall.f k p l t d) (DigR p l t d) := by
  unfold impl_DigitsOfBall.f DigR
  rw [bnd (IsBall_ev hl hd)]
  by_cases h : IsP p ∧ Bal p l t d
  · have hs := h.2.small h.1
    have hr : -6 ≤ l ∧ l ≤ 6 ∧ 0 ≤ d ∧ d ≤ 6 := by have := h.2; unfold Bal at this; omega
    have e : mx (wrap64 (l + d)) 0 = ((l + d).toNat : Int) := by rw [wrap_id (by omega) (by omega)]; unfold mx; split <;> omega
    simp only [h, and_self, decide_true, if_true, e]
    exact digits_l h.1 _ (by omega) _ 0 [] t (by omega) (by simp only [List.length_nil]; omega) hs.1 hs.2
  · simp only [h, decide_false, if_neg Bool.false_ne_true, if_false]; exact Ev.now _
theorem digits_s {p l d : Int} (t' : Int) (h : IsP p) (hr : -6 ≤ l ∧ l ≤ 6 ∧ 0 ≤ d ∧ d ≤ 6) : ∀ (m i : Nat) (acc : List Int) (t : Int), m = (l + d - i).toNat → i ≤ 12 → acc.length + m ≤ 1000 → 0 ≤ t → t ≤ 13841287201 → Ev (fun k => spec_DigitsOfBall.l0 k p acc t i l t' d) (acc ++ digs p t m, 0) := by
  have e0 : wrap64 (l + d) = l + d := wrap_id (by omega) (by omega)
  intro m
  induction m with
  | zero =>
    intro i acc t hi hi2 ha h0 h1
    refine Ev.step (fun k => by rw [spec_DigitsOfBall.l0]) ?_
    simp only [e0, if_neg (show ¬ (i : Int) < l + d by omega), digs, List.append_nil]
    exact Ev.now _
  | succ m ih =>
    intro i acc t hi hi2 ha h0 h1
    have hii : (i : Int) < l + d := by omega
    have hi3 : m = (l + d - ((i + 1 : Nat) : Int)).toNat := by omega
    have hi12 : i + 1 ≤ 12 := by omega
    have hz : (acc ++ [t % p]).length + m ≤ 1000 := by rw [List.length_append, List.length_singleton]; omega
    have hq9 : acc.length < 17592186044416 := Nat.lt_of_le_of_lt (Nat.le_trans (Nat.le_add_right _ _) ha) (by omega)
    clear hi
    refine Ev.step (fun k => by rw [spec_DigitsOfBall.l0]) ?_
    have hp := h.two_le
    have e1 : Int.tmod t p = t % p := Int.tmod_eq_emod_of_nonneg h0
    have hq := tdiv_bounds (n := t) (m := p)
    have e2 : Int.tdiv t p = t / p := Int.tdiv_eq_ediv_of_nonneg h0
    have hq0 : 0 ≤ t / p := Int.ediv_nonneg h0 (by omega)
    rw [e2] at hq
    have e3 : wrap64 (t / p) = t / p := wrap_id (by omega) (by omega)
    have e4 : wrap64 ((i : Int) + 1) = ((i + 1 : Nat) : Int) := by rw [wrap_id (by omega) (by omega)]; omega
    have hy : t / p ≤ 13841287201 := by clear hq9 hz ha; omega
    simp only [e0, if_pos hii, if_neg h.ne, e1, e2, e3, e4]
    simp only [if_pos hq9]
    have hx := ih (i + 1) (acc ++ [t % p]) (t / p) hi3 hi12 hz hq0 hy
    rw [show digs p t (m + 1) = t % p :: digs p (t / p) m from rfl]
    rw [List.append_assoc] at hx
    exact hx
theorem specDigits_ev {p l t d : Int} (hl : -9223372036854775808 ≤ l ∧ l ≤ 9223372036854775807) (hd : -9223372036854775808 ≤ d ∧ d ≤ 9223372036854775807) : Ev (fun k => spec_DigitsOfBall.f k p l t d) (DigR p l t d) := by
  unfold spec_DigitsOfBall.f DigR
  rw [bnd (l01Code1 hl hd)]
  by_cases h : IsP p ∧ Bal p l t d
  · have hs := h.2.small h.1
    have hr : -6 ≤ l ∧ l ≤ 6 ∧ 0 ≤ d ∧ d ≤ 6 := by have := h.2; unfold Bal at this; omega
    simp only [h, and_self, if_true]
    exact digits_s t h.1 hr _ 0 [] t (by omega) (by omega) (by simp only [List.length_nil]; omega) hs.1 hs.2
  · simp only [h, if_false, if_neg (show ¬ (1 : Int) = 0 by omega)]; exact Ev.now _
theorem pow_split {p : Int} {a b c : Nat} (h : a + b = c) : p ^ a * p ^ b = p ^ c := by rw [← Int.pow_add, h]
def MulR (p l t d k : Int) : Int × Int × Int × Int :=
  if IsP p ∧ Bal p l t d then (if -20 ≤ k ∧ k ≤ 20 then (if -6 ≤ l + k ∧ l + k ≤ 6 then
    (if 0 ≤ k then (l + k, ofMt p (l + k) (mk p t d * p ^ k.toNat), (ofMd p (l + k) (mk p t d * p ^ k.toNat) : Int), 0)
     else if p ^ (-k).toNat ∣ mk p t d then (l + k, ofMt p (l + k) (mk p t d / p ^ (-k).toNat), (ofMd p (l + k) (mk p t d / p ^ (-k).toNat) : Int), 0) else (0, 0, 0, 3))
    else (0, 0, 0, 3)) else (0, 0, 0, 2)) else (0, 0, 0, 1)
theorem mk_times {p l t d k : Int} (h : IsP p) (hb : Bal p l t d) (hk : 0 ≤ k) (hlk : l + k ≤ 6) : 0 ≤ mk p t d * p ^ k.toNat ∧ mk p t d * p ^ k.toNat < 13841287202 := by
  have hm := hb.mark h
  have hr : -6 ≤ l := by unfold Bal at hb; omega
  have h0 := pow_pos' h k.toNat
  have h1 : mk p t d * p ^ k.toNat ≤ p ^ (l + 6).toNat * p ^ k.toNat := Int.mul_le_mul_of_nonneg_right (by omega) (by omega)
  have h2 : p ^ (l + 6).toNat * p ^ k.toNat = p ^ ((l + 6).toNat + k.toNat) := (Int.pow_add ..).symm
  have h3 := pow_le_seven h (m := (l + 6).toNat + k.toNat) (n := 12) (by omega)
  have e : (7 : Int) ^ 12 = 13841287201 := by decide
  have h4 := Int.mul_nonneg hm.1 (Int.le_of_lt h0)
  omega
theorem fitted_some {l t d : Int} : impl_fitted.f l t d true = some (l, t, d, 0) := fitted_eq (l, t, d, true)
theorem implMultiplyBall_j {p l t d k : Int} (h : IsP p) (hb : Bal p l t d) (hk : -20 ≤ k ∧ k ≤ 20) : Ev (fun n => impl_MultiplyBall.j0 n p k false l t d) (if -6 ≤ l + k ∧ l + k ≤ 6 then
    (if 0 ≤ k then (l + k, ofMt p (l + k) (mk p t d * p ^ k.toNat), (ofMd p (l + k) (mk p t d * p ^ k.toNat) : Int), 0)
     else if p ^ (-k).toNat ∣ mk p t d then (l + k, ofMt p (l + k) (mk p t d / p ^ (-k).toNat), (ofMd p (l + k) (mk p t d / p ^ (-k).toNat) : Int), 0) else (0, 0, 0, 3))
    else (0, 0, 0, 3)) := by
  have hr : -6 ≤ l ∧ l ≤ 6 ∧ 0 ≤ d ∧ d ≤ 6 := by unfold Bal at hb; omega
  have hm := mark_le h hb
  have e1 : wrap64 (l + k) = l + k := wrap_id (by omega) (by omega)
  have e2 : wrap64 (-k) = -k := wrap_id (by omega) (by omega)
  refine Ev.step (fun n => by rw [impl_MultiplyBall.j0]) ?_
  simp only [if_neg Bool.false_ne_true, e1, e2, isLevel_eq, Option.bind_some]
  by_cases hl : -6 ≤ l + k ∧ l + k ≤ 6
  · simp only [if_pos hl, hl, and_self, decide_true, if_true]
    by_cases h0 : 0 ≤ k
    · simp only [if_pos h0, if_pos (show k ≥ 0 from h0)]
      rw [bnd (mark_ev h hb), bnd (power_ev h (by omega))]
      have hq := mk_times h hb h0 hl.2
      simp only [wrap_id (x := mk p t d * p ^ k.toNat) (by omega) (by omega)]
      rw [bnd (ofMark_ev h (by omega))]
      simp only [if_pos hl, fitted_some, Option.bind_some]
      exact Ev.now _
    · simp only [if_neg h0, if_neg (show ¬ k ≥ 0 from h0)]
      rw [bnd (mark_ev h hb), bnd (power_ev h (by omega))]
      have ht : Int.tmod (mk p t d) (p ^ (-k).toNat) = mk p t d % p ^ (-k).toNat := Int.tmod_eq_emod_of_nonneg hm.1
      have hd : Int.tdiv (mk p t d) (p ^ (-k).toNat) = mk p t d / p ^ (-k).toNat := Int.tdiv_eq_ediv_of_nonneg hm.1
      have hq := tdiv_bounds (n := mk p t d) (m := p ^ (-k).toNat)
      rw [hd] at hq
      simp only [if_neg (pow_ne' h _), ht, hd]
      by_cases hv : p ^ (-k).toNat ∣ mk p t d
      · simp only [if_pos (Int.emod_eq_zero_of_dvd hv), if_pos hv, wrap_id (x := mk p t d / p ^ (-k).toNat) (by omega) (by omega)]
        rw [bnd (ofMark_ev h (by omega))]
        simp only [if_pos hl, fitted_some, Option.bind_some]
        exact Ev.now _
      · simp only [if_neg (fun hz => hv (Int.dvd_of_emod_eq_zero hz)), if_neg hv]
        exact Ev.now _
  · simp only [if_neg hl, hl, decide_false, if_neg Bool.false_ne_true]
    exact Ev.now _
theorem implMultiplyBall_ev {p l t d k : Int} (hl : -9223372036854775808 ≤ l ∧ l ≤ 9223372036854775807) (hd : -9223372036854775808 ≤ d ∧ d ≤ 9223372036854775807) : Ev (fun n => impl_MultiplyBall.f n p l t d k) (MulR p l t d k) := by
  unfold impl_MultiplyBall.f MulR
  rw [bnd (IsBall_ev hl hd)]
  by_cases h : IsP p ∧ Bal p l t d
  · simp only [h, and_self, decide_true, if_true]
    have bad : Ev (fun n => impl_MultiplyBall.j0 n p k true l t d) (0, 0, 0, 2) := by
      refine Ev.step (fun n => by rw [impl_MultiplyBall.j0]) ?_
      simp only [if_true]; exact Ev.now _
    by_cases h1 : k < -20
    · simp only [if_pos h1, if_neg (show ¬ (-20 ≤ k ∧ k ≤ 20) by omega)]; exact bad
    · simp only [if_neg h1]
      by_cases h2 : k > 20
      · simp only [h2, decide_true, if_neg (show ¬ (-20 ≤ k ∧ k ≤ 20) by omega)]; exact bad
      · simp only [h2, decide_false, if_pos (show -20 ≤ k ∧ k ≤ 20 by omega)]
        exact implMultiplyBall_j h.1 h.2 (by omega)
  · simp only [h, decide_false, if_neg Bool.false_ne_true, if_false]; exact Ev.now _
theorem mulZero {p num den lev t d : Int} {r : Int × Int × Int × Bool} (hr : Ev (fun k => spec_l01Of.f k p num den lev) r) : Ev (fun k => spec_MultiplyBall.l1 k p 0 num den lev t d) (fitR r) := by
  refine Ev.step (fun k => by rw [spec_MultiplyBall.l1]) ?_
  simp only [if_neg (Int.lt_irrefl _)]
  rw [bnd hr]
  unfold fitR
  by_cases hb : r.2.2.2 = true
  · simp only [if_pos hb]; exact Ev.now _
  · simp only [if_neg hb]; exact Ev.now _
theorem mulDown {p t d num : Int} {r : Int × Int × Int × Bool} (h : IsP p) : ∀ (m e : Nat) (lev : Int), e + m ≤ 22 → -100 ≤ lev - m → lev ≤ 100 → Ev (fun k => spec_l01Of.f k p num (p ^ (e + m)) (lev - m)) r → Ev (fun k => spec_MultiplyBall.l1 k p (-(m : Int)) num (p ^ e) lev t d) (fitR r) := by
  intro m
  induction m with
  | zero =>
    intro e lev he h0 h1 hr
    have a : lev - ((0 : Nat) : Int) = lev := by omega
    rw [a] at hr
    exact mulZero hr
  | succ m ih =>
    intro e lev he h0 h1 hr
    refine Ev.step (fun k => by rw [spec_MultiplyBall.l1]) ?_
    have e1 : wrap64 (-((m + 1 : Nat) : Int) + 1) = -(m : Int) := by rw [wrap_id (by omega) (by omega)]; omega
    have q0 := pow_pos' h (e + 1)
    have q1 := pow_le_22 h (n := e + 1) (by omega)
    have e2 : wrap64 (p ^ e * p) = p ^ (e + 1) := by rw [← show p ^ (e + 1) = p ^ e * p from Int.pow_succ p e]; exact wrap_id (by omega) (by omega)
    have e3 : wrap64 (lev - 1) = lev - 1 := wrap_id (by omega) (by omega)
    simp only [if_pos (show -((m + 1 : Nat) : Int) < 0 by omega), e1, e2, e3]
    refine ih (e + 1) (lev - 1) (by omega) (by omega) (by omega) ?_
    rw [show e + 1 + m = e + (m + 1) by omega, show lev - 1 - (m : Int) = lev - ((m + 1 : Nat) : Int) by omega]
    exact hr
theorem mulUp {p t d : Int} {r : Int × Int × Int × Bool} (h : IsP p) : ∀ (m e : Nat) (num lev : Int), e ≤ 22 → -100 ≤ lev → lev + m ≤ 100 → 0 ≤ num → num * p ^ m ≤ 13841287202 → Ev (fun k => spec_l01Of.f k p (num * p ^ (m - e)) (p ^ (e - m)) (lev + m)) r → Ev (fun k => spec_MultiplyBall.l0 k p m num (p ^ e) lev t d) (fitR r) := by
  intro m
  induction m with
  | zero =>
    intro e num lev he h0 h1 hn hp hr
    refine Ev.step (fun k => by rw [spec_MultiplyBall.l0]) ?_
    have a : lev + ((0 : Nat) : Int) = lev := by omega
    rw [a, Nat.zero_sub, Nat.sub_zero, Int.pow_zero, Int.mul_one] at hr
    have hz : ((0 : Nat) : Int) = 0 := rfl
    simp only [hz, if_neg (show ¬ (0 : Int) > 0 by omega)]
    exact mulZero hr
  | succ m ih =>
    intro e num lev he h0 h1 hn hp hr
    refine Ev.step (fun k => by rw [spec_MultiplyBall.l0]) ?_
    have h2 := h.two_le
    have e1 : wrap64 (((m + 1 : Nat) : Int) - 1) = (m : Int) := by rw [wrap_id (by omega) (by omega)]; omega
    have e3 : wrap64 (lev + 1) = lev + 1 := wrap_id (by omega) (by omega)
    have hsplit : num * p ^ (m + 1) = num * p * p ^ m := by rw [Int.pow_succ, Int.mul_comm (p ^ m), Int.mul_assoc]
    have hm1 := one_le_pow h m
    have hlv : lev + 1 + (m : Int) = lev + ((m + 1 : Nat) : Int) := by omega
    simp only [if_pos (show ((m + 1 : Nat) : Int) > 0 by omega), e1, e3]
    cases e with
    | zero =>
      have hnp : 0 ≤ num * p := Int.mul_nonneg hn (by omega)
      have hle : num * p * 1 ≤ num * p * p ^ m := Int.mul_le_mul_of_nonneg_left hm1 hnp
      have e2 : wrap64 (num * p) = num * p := wrap_id (by omega) (by omega)
      simp only [Int.pow_zero, if_neg (show ¬ (1 : Int) > 1 by omega), e2]
      have := ih 0 (num * p) (lev + 1) (by omega) (by omega) (by omega) hnp (by omega) (by
        rw [hlv, Nat.zero_sub, Nat.sub_zero, ← hsplit]
        rw [Nat.zero_sub, Nat.sub_zero] at hr
        exact hr)
      rw [Int.pow_zero] at this
      exact this
    | succ e =>
      have hgt : p ^ (e + 1) > 1 := by
        have a := one_le_pow h e
        have b : p ^ e * 2 ≤ p ^ e * p := Int.mul_le_mul_of_nonneg_left h2 (by omega)
        rw [Int.pow_succ]; omega
      have q : Int.tdiv (p ^ (e + 1)) p = p ^ e := by
        rw [Int.pow_succ, Int.mul_comm]; exact tdiv_mul_left h.ne
      have q0 := pow_pos' h e
      have q1 := pow_le_22 h (n := e) (by omega)
      have e2 : wrap64 (p ^ e) = p ^ e := wrap_id (by omega) (by omega)
      have hnm : 0 ≤ num * p ^ m := Int.mul_nonneg hn (by omega)
      have hle : num * p ^ m * 1 ≤ num * p ^ m * p := Int.mul_le_mul_of_nonneg_left (by omega) hnm
      have hs2 : num * p ^ (m + 1) = num * p ^ m * p := by rw [Int.pow_succ, Int.mul_assoc]
      simp only [if_pos hgt, if_neg h.ne, q, e2]
      refine ih e num (lev + 1) (by omega) (by omega) (by omega) hn (by omega) ?_
      rw [hlv]
      rw [show m + 1 - (e + 1) = m - e by omega, show e + 1 - (m + 1) = e - m by omega] at hr
      exact hr
theorem specMultiplyBall_ev {p l t d k : Int} (hl : -9223372036854775808 ≤ l ∧ l ≤ 9223372036854775807) (hd : -9223372036854775808 ≤ d ∧ d ≤ 9223372036854775807) : Ev (fun n => spec_MultiplyBall.f n p l t d k) (MulR p l t d k) := by
  unfold spec_MultiplyBall.f MulR
  rw [bnd (l01Code1 hl hd)]
  by_cases h : IsP p ∧ Bal p l t d
  · simp only [h, and_self, if_true, l01In_eq, Option.bind_some]
    have hr : -6 ≤ l ∧ l ≤ 6 ∧ 0 ≤ d ∧ d ≤ 6 := by have := h.2; unfold Bal at this; omega
    have hs := h.2.small h.1
    have hmk := mark_le h.1 h.2
    by_cases hk : -20 ≤ k ∧ k ≤ 20
    · have e1 : wrap64 (l + k) = l + k := wrap_id (by omega) (by omega)
      simp only [if_pos hk, hk, and_self, decide_true, if_true, e1]
      by_cases hlk : -6 ≤ l + k ∧ l + k ≤ 6
      · simp only [if_pos hlk, hlk, and_self, decide_true, if_true]
        rw [bnd (l01Power_ev h.1 (by omega))]
        by_cases h0 : 0 ≤ k
        · simp only [if_pos h0]
          have hq := mk_times h.1 h.2 h0 hlk.2
          have hc : ((k.toNat : Nat) : Int) = k := Int.toNat_of_nonneg h0
          have hle : t * p ^ k.toNat ≤ mk p t d * p ^ k.toNat := by
            refine Int.mul_le_mul_of_nonneg_right ?_ (Int.le_of_lt (pow_pos' h.1 _))
            unfold mk
            have a := one_le_pow h.1 (6 - d).toNat
            have b : t * 1 ≤ t * p ^ (6 - d).toNat := Int.mul_le_mul_of_nonneg_left a hs.1
            omega
          have hn0 : 0 ≤ t * p ^ (k.toNat - d.toNat) := Int.mul_nonneg hs.1 (Int.le_of_lt (pow_pos' h.1 _))
          have hn1 : t * p ^ (k.toNat - d.toNat) ≤ t * p ^ k.toNat := Int.mul_le_mul_of_nonneg_left (pow_mono h.1 (by omega)) hs.1
          have hof := l01Of_pow (p := p) (t := t * p ^ (k.toNat - d.toNat)) (d := ((d.toNat - k.toNat : Nat) : Int)) (level := l + k) h.1 (by omega) (by omega)
          rw [Int.toNat_natCast, if_pos hlk] at hof
          have em : mk p (t * p ^ (k.toNat - d.toNat)) ((d.toNat - k.toNat : Nat) : Int) = mk p t d * p ^ k.toNat := by
            unfold mk
            rw [Int.mul_assoc, Int.mul_assoc, ← Int.pow_add, ← Int.pow_add]
            rw [show k.toNat - d.toNat + (6 - ((d.toNat - k.toNat : Nat) : Int)).toNat = (6 - d).toNat + k.toNat by omega]
          rw [em] at hof
          have := mulUp (t := t) (d := d) h.1 k.toNat d.toNat t l (by omega) (by omega) (by omega) hs.1 (by omega) (by rw [hc]; exact hof)
          rw [hc] at this
          exact this
        · simp only [if_neg h0]
          have hc : -(((-k).toNat : Nat) : Int) = k := by omega
          have hlc : l - (((-k).toNat : Nat) : Int) = l + k := by omega
          refine Ev.step (fun n => by rw [spec_MultiplyBall.l0]) ?_
          simp only [if_neg (show ¬ k > 0 by omega)]
          have hD0 := pow_pos' h.1 (d.toNat + (-k).toNat)
          have hD1 := pow_le_22 h.1 (n := d.toNat + (-k).toNat) (by omega)
          have hcut : mk p t d * p ^ d.toNat = t * p ^ 6 := by
            unfold mk
            rw [Int.mul_assoc, ← Int.pow_add, show (6 - d).toNat + d.toNat = 6 by omega]
          have hvm : t ≠ 0 → mk p t d ≠ 0 ∧ vl p (mk p t d) = vl p t + (6 - d).toNat := by
            intro ht
            have a : mk p t d ≠ 0 := by unfold mk; exact Int.mul_ne_zero ht (pow_ne' h.1 _)
            refine ⟨a, ?_⟩
            unfold mk
            rw [vl_mul h.1 ht (pow_ne' h.1 _), vl_pow h.1]
          by_cases hv : p ^ (-k).toNat ∣ mk p t d
          · simp only [if_pos hv]
            have hdiv : mk p t d / p ^ (-k).toNat * p ^ (-k).toNat = mk p t d := Int.ediv_mul_cancel hv
            have hx : mk p t d / p ^ (-k).toNat * p ^ (d.toNat + (-k).toNat) - t * p ^ 6 = 0 := by
              rw [Nat.add_comm, Int.pow_add, ← Int.mul_assoc, hdiv, hcut]; omega
            have hof := l01Of_ev (p := p) (num := t) (den := p ^ (d.toNat + (-k).toNat)) (level := l + k) (x := mk p t d / p ^ (-k).toNat) h.1 hlk.1 hlk.2 (by omega) (by omega) (by omega) (by rw [hx]; exact Int.dvd_zero _) (by
              by_cases ht : t = 0
              · exact .inl ht
              · right
                obtain ⟨a, b⟩ := hvm ht
                have c := (pow_dvd_iff h.1 a _).1 hv
                rw [vl_pow h.1]
                omega)
            have := mulDown (t := t) (d := d) (num := t) h.1 (-k).toNat d.toNat l (by omega) (by omega) (by omega) (by rw [hlc]; exact hof)
            rw [hc] at this
            exact this
          · simp only [if_neg hv]
            have ht : t ≠ 0 := by
              intro hz
              apply hv
              have : mk p t d = 0 := by unfold mk; rw [hz, Int.zero_mul]
              rw [this]; exact Int.dvd_zero _
            obtain ⟨a, b⟩ := hvm ht
            have c : ¬ (-k).toNat ≤ vl p (mk p t d) := fun hz => hv ((pow_dvd_iff h.1 a _).2 hz)
            have hof := l01Of_no (p := p) (num := t) (den := p ^ (d.toNat + (-k).toNat)) (level := l + k) h.1 hlk.1 hlk.2 (by omega) ht (by omega) (by omega) (by rw [vl_pow h.1]; omega)
            have := mulDown (t := t) (d := d) (num := t) h.1 (-k).toNat d.toNat l (by omega) (by omega) (by omega) (by rw [hlc]; exact hof)
            rw [hc] at this
            exact this
      · simp only [if_neg hlk, hlk, decide_false, if_neg Bool.false_ne_true]; exact Ev.now _
    · simp only [if_neg hk, hk, decide_false, if_neg Bool.false_ne_true]; exact Ev.now _
  · simp only [h, if_false, if_neg (show ¬ (1 : Int) = 0 by omega)]; exact Ev.now _
/-- Where a source of draws stands. -/
def Src (l : List Int) (at_ : Int) : Prop := (∀ x ∈ l, 0 ≤ x ∧ x ≤ 255) ∧ 0 ≤ at_ ∧ at_ ≤ l.length ∧ l.length ≤ 4096
theorem mask34 {x : Int} (h0 : 0 ≤ x) (h1 : x < 18446744073709551616) : Go.bits .and .u64 x 17179869183 = x % 17179869184 := by
  have := bits_mask .u64 64 (by decide) wraps_u64 34 (by decide) x h0 (by simpa using h1)
  simpa using this
theorem rd_mem {l : List Int} {i : Int} (h0 : 0 ≤ i) (h1 : i < l.length) : rd l i ∈ l := by
  unfold rd
  rw [List.getD_eq_getElem?_getD, List.getElem?_eq_getElem (by omega)]
  exact List.getElem_mem _
theorem tmod_in {x n : Int} (h0 : 0 ≤ x) (h1 : 1 ≤ n) : 0 ≤ Int.tmod x n ∧ Int.tmod x n < n := by
  rw [Int.tmod_eq_emod_of_nonneg h0]
  exact ⟨Int.emod_nonneg _ (by omega), Int.emod_lt_of_pos _ (by omega)⟩
theorem next_eq {l : List Int} {c h n : Int} (hs : Src l c) (hn : 1 ≤ n) : ∃ x c' h', spec_l01Next.f l c h n = some (x, c', h') ∧ (0 ≤ x ∧ x < n) ∧ Src l c' := by
  obtain ⟨hb, c0, c1, hl⟩ := hs
  unfold spec_l01Next.f
  simp only [if_neg (show ¬ n < 1 by omega), if_neg (show ¬ n = 0 by omega)]
  have hw : ∀ y : Int, (0 ≤ IntKind.u64.wrap y / 8388608) ∧ IntKind.u64.wrap y / 8388608 < 18446744073709551616 := fun y => by rw [wrapu]; omega
  rw [mask34 (hw _).1 (hw _).2]
  generalize IntKind.u64.wrap (IntKind.u64.wrap (h * 6364136223846793005) + 1442695040888963407) = H
  have hm : 0 ≤ H / 8388608 % 17179869184 ∧ H / 8388608 % 17179869184 < 17179869184 := by omega
  generalize H / 8388608 % 17179869184 = y at *
  rw [wrap_id (x := y) (by omega) (by omega)]
  by_cases hc : c < (l.length : Int)
  · have hr := hb _ (rd_mem c0 hc)
    simp only [if_pos hc, if_pos c0]
    rw [wrap_id (x := rd l c) (by omega) (by omega), wrap_id (x := y + rd l c) (by omega) (by omega), wrap_id (x := c + 1) (by omega) (by omega)]
    exact ⟨_, _, _, rfl, tmod_in (by omega) hn, hb, by omega, by omega, hl⟩
  · simp only [if_neg hc]
    exact ⟨_, _, _, rfl, tmod_in (by omega) hn, hb, c0, c1, hl⟩
theorem pick_eq {l : List Int} {c h : Int} {xs : List Int} (hs : Src l c) (hx : 1 ≤ xs.length) (hx' : xs.length ≤ 1000) : ∃ x c' h', spec_l01Pick.f l c h xs = some (x, c', h') ∧ x ∈ xs ∧ Src l c' := by
  unfold spec_l01Pick.f
  obtain ⟨x, c', h', e, hr, hs'⟩ := next_eq (h := h) hs (show 1 ≤ (xs.length : Int) by omega)
  rw [e]
  simp only [Option.bind_some, if_pos hr.1, if_pos hr.2]
  exact ⟨_, _, _, rfl, rd_mem hr.1 hr.2, hs'⟩
theorem from_l {l : List Int} : ∀ (d i : Nat) (h : Int), i + d = l.length → ∃ h', Ev (fun k => spec_l01From.l0 k l i l 0 h) (l, 0, h') := by
  intro d
  induction d with
  | zero =>
    intro i h hi
    refine ⟨h, Ev.step (fun k => by rw [spec_l01From.l0]) ?_⟩
    simp only [if_neg (show ¬ (i : Int) < (l.length : Int) by omega)]
    exact Ev.now _
  | succ d ih =>
    intro i h hi
    by_cases h4 : (i : Int) < 4096
    · obtain ⟨h', e⟩ := ih (i + 1) (IntKind.u64.wrap ((IntKind.u64.wrap ((IntKind.u64.wrap (h * 1099511628211)) + (IntKind.u64.wrap (rd l i)))) + 71)) (by omega)
      refine ⟨h', Ev.step (fun k => by rw [spec_l01From.l0]) ?_⟩
      simp only [if_pos (show (i : Int) < (l.length : Int) by omega), if_pos h4, if_pos (show (0 : Int) ≤ i by omega)]
      rw [wrap_id (x := (i : Int) + 1) (by omega) (by omega)]
      exact e
    · refine ⟨h, Ev.step (fun k => by rw [spec_l01From.l0]) ?_⟩
      simp only [if_pos (show (i : Int) < (l.length : Int) by omega), if_neg h4]
      exact Ev.now _
theorem from_ev {l : List Int} (hb : ∀ x ∈ l, (Lit.int .u8 x).wf = true) (hl : l.length ≤ 4096) : ∃ h, Ev (fun k => spec_l01From.f k l) (l, 0, h) ∧ Src l 0 := by
  obtain ⟨h, e⟩ := from_l (l := l) l.length 0 (IntKind.u64.wrap (12527 + (IntKind.u64.wrap ((l.length : Int))))) (by omega)
  refine ⟨h, e, fun x hx => ?_, by omega, by omega, hl⟩
  have := hb x hx
  simp [Lit.wf, IntKind.min, IntKind.max, IntKind.signed, IntKind.bits] at this; omega
/-- What is far from the ends of int64. -/
def Sm (x : Int) : Prop := -4000000000000 ≤ x ∧ x ≤ 4000000000000
def SmB (l t d : Int) : Prop := Sm l ∧ Sm t ∧ Sm d
theorem Bal.sm {p l t d : Int} (hp : IsP p) (h : Bal p l t d) : (-6 ≤ l ∧ l ≤ 6) ∧ (0 ≤ t ∧ t ≤ 13841287201) ∧ 0 ≤ d ∧ d ≤ 6 := by
  have h1 := h.small hp
  unfold Bal at h
  split at h <;> omega
theorem Bal.zero {p l : Int} (hp : IsP p) (h : -6 ≤ l ∧ l ≤ 6) : Bal p l 0 0 := by
  by_cases hl : l + 0 ≤ 0
  · rw [Bal_low hl]; omega
  · rw [Bal_high hl]
    have := pow_pos' hp (l + 0).toNat
    exact ⟨h.1, h.2, by omega, by omega, by omega, this, .inl rfl⟩
theorem drawBall_ev {l : List Int} {c h p : Int} (hp : IsP p) (hs : Src l c) : ∃ lv t d c' h', Ev (fun k => spec_l01Draw.f k l c h p) (lv, t, d, c', h') ∧ Bal p lv t d ∧ Src l c' := by
  unfold spec_l01Draw.f
  obtain ⟨x1, c1, h1, e1, r1, s1⟩ := next_eq (h := h) hs (show (1 : Int) ≤ 13 by omega)
  obtain ⟨lv, c2, h2, e2, r2, s2⟩ := pick_eq (h := h1) (xs := [0, 1, 2, 3, wrap64 (x1 - 6)]) s1 (by simp) (by simp)
  obtain ⟨x3, c3, h3, e3, r3, s3⟩ := next_eq (h := h2) s2 (show (1 : Int) ≤ 6 by omega)
  have hlv : -6 ≤ lv ∧ lv ≤ 6 := by
    rw [wrap_id (x := x1 - 6) (by omega) (by omega)] at r2
    simp only [List.mem_cons, List.not_mem_nil, or_false] at r2; omega
  simp only [e1, e2, e3, Option.bind_some]
  by_cases h0 : x3 = 0
  · simp only [if_pos h0]
    exact ⟨_, _, _, _, _, Ev.now _, Bal.zero hp hlv, s3⟩
  · simp only [if_neg h0]
    obtain ⟨x4, c4, h4, e4, r4, s4⟩ := next_eq (h := h3) s3 (show (1 : Int) ≤ 20 by omega)
    obtain ⟨x5, c5, h5, e5, r5, s5⟩ := next_eq (h := h4) s4 (show (1 : Int) ≤ 2000000 by omega)
    obtain ⟨nm, c6, h6, e6, r6, s6⟩ := pick_eq (h := h5) (xs := [wrap64 (x4 - 10), wrap64 (x5 - 1000000)]) s5 (by simp) (by simp)
    obtain ⟨x7, c7, h7, e7, r7, s7⟩ := next_eq (h := h6) s6 (show (1 : Int) ≤ 7 by omega)
    obtain ⟨ex, c8, h8, e8, r8, s8⟩ := pick_eq (h := h7) (xs := [0, 0, 1, 2, x7]) s7 (by simp) (by simp)
    have hnm : -1000000 ≤ nm ∧ nm ≤ 1000000 := by
      rw [wrap_id (x := x4 - 10) (by omega) (by omega), wrap_id (x := x5 - 1000000) (by omega) (by omega)] at r6
      simp only [List.mem_cons, List.not_mem_nil, or_false] at r6; omega
    have hex : 0 ≤ ex ∧ ex ≤ 6 := by
      simp only [List.mem_cons, List.not_mem_nil, or_false] at r8; omega
    simp only [e4, e5, e6, e7, e8, Option.bind_some]
    have hof := l01Of_pow (t := nm) (level := lv) hp hex (by omega)
    rw [if_pos hlv] at hof
    refine ⟨lv, ofMt p lv (mk p nm ex), (ofMd p lv (mk p nm ex) : Int), c8, h8, ?_, ofM_bal hp hlv.1 hlv.2 _, s8⟩
    rw [bnd (l01Power_ev hp (show ex ≤ 22 by omega)), bnd hof]
    simp only [if_true]
    exact Ev.now _
theorem bad_eq {l : List Int} {c h lv t d : Int} (hs : Src l c) (hb : (-6 ≤ lv ∧ lv ≤ 6) ∧ (0 ≤ t ∧ t ≤ 13841287201) ∧ 0 ≤ d ∧ d ≤ 6) : ∃ lv' t' d' c' h', spec_l01Bad.f l c h lv t d = some (lv', t', d', c', h') ∧ SmB lv' t' d' ∧ Src l c' := by
  unfold spec_l01Bad.f SmB Sm
  obtain ⟨x1, c1, h1, e1, r1, s1⟩ := next_eq (h := h) hs (show (1 : Int) ≤ 40 by omega)
  simp only [e1, Option.bind_some]
  by_cases z0 : x1 = 0
  · obtain ⟨y, c2, h2, e2, r2, s2⟩ := pick_eq (h := h1) (xs := [-7, 7, wrap64 (lv - 1), 1099511627776]) s1 (by simp) (by simp)
    simp only [if_pos z0, e2, Option.bind_some]
    rw [wrap_id (x := lv - 1) (by omega) (by omega)] at r2
    simp only [List.mem_cons, List.not_mem_nil, or_false] at r2
    exact ⟨_, _, _, _, _, rfl, by omega, s2⟩
  · simp only [if_neg z0]
    by_cases z1 : x1 = 1
    · obtain ⟨y, c2, h2, e2, r2, s2⟩ := pick_eq (h := h1) (xs := [-1, wrap64 (t * 7), 1099511627776]) s1 (by simp) (by simp)
      simp only [if_pos z1, e2, Option.bind_some]
      rw [wrap_id (x := t * 7) (by omega) (by omega)] at r2
      simp only [List.mem_cons, List.not_mem_nil, or_false] at r2
      exact ⟨_, _, _, _, _, rfl, by omega, s2⟩
    · simp only [if_neg z1]
      by_cases z2 : x1 = 2
      · obtain ⟨y, c2, h2, e2, r2, s2⟩ := pick_eq (h := h1) (xs := [-1, wrap64 (d + 1), 7]) s1 (by simp) (by simp)
        simp only [if_pos z2, e2, Option.bind_some]
        rw [wrap_id (x := d + 1) (by omega) (by omega)] at r2
        simp only [List.mem_cons, List.not_mem_nil, or_false] at r2
        exact ⟨_, _, _, _, _, rfl, by omega, s2⟩
      · simp only [if_neg z2]
        exact ⟨_, _, _, _, _, rfl, by omega, s1⟩
theorem prime_eq {l : List Int} {c h : Int} (hs : Src l c) : ∃ p c' h', spec_l01DrawPrime.f l c h = some (p, c', h') ∧ IsP p ∧ Src l c' := by
  unfold spec_l01DrawPrime.f
  obtain ⟨p, c1, h1, e1, r1, s1⟩ := pick_eq (h := h) (xs := [2, 2, 3, 3, 5, 7]) hs (by simp) (by simp)
  simp only [e1, Option.bind_some]
  refine ⟨_, _, _, rfl, ?_, s1⟩
  simp only [List.mem_cons, List.not_mem_nil, or_false] at r1
  unfold IsP; omega
theorem spoil_ev {l : List Int} {c h : Int} (hs : Src l c) : ∃ p lv t d c' h', Ev (fun k => spec_l01Spoil.f k l c h) (p, lv, t, d, c', h') ∧ Sm p ∧ SmB lv t d ∧ Src l c' := by
  unfold spec_l01Spoil.f
  obtain ⟨p, c1, h1, e1, r1, s1⟩ := prime_eq (h := h) hs
  obtain ⟨lv, t, d, c2, h2, e2, r2, s2⟩ := drawBall_ev (h := h1) r1 s1
  obtain ⟨lv', t', d', c3, h3, e3, r3, s3⟩ := bad_eq (h := h2) s2 (Bal.sm r1 r2)
  obtain ⟨x4, c4, h4, e4, r4, s4⟩ := next_eq (h := h3) s3 (show (1 : Int) ≤ 40 by omega)
  by_cases z : x4 = 0
  · obtain ⟨q, c5, h5, e5, r5, s5⟩ := pick_eq (h := h4) (xs := [0, 1, 4, 11, -3]) s4 (by simp) (by simp)
    refine ⟨q, lv', t', d', c5, h5, ?_, ?_, r3, s5⟩
    · simp only [e1, Option.bind_some]
      rw [bnd e2]
      simp only [e3, e4, Option.bind_some, if_pos z, e5]
      exact Ev.now _
    · simp only [List.mem_cons, List.not_mem_nil, or_false] at r5
      unfold Sm; omega
  · refine ⟨p, lv', t', d', c4, h4, ?_, ?_, r3, s4⟩
    · simp only [e1, Option.bind_some]
      rw [bnd e2]
      simp only [e3, e4, Option.bind_some, if_neg z]
      exact Ev.now _
    · have := r1.two_le; have := r1.le_seven; unfold Sm; omega
theorem par_dvd {p l t d : Int} (h : IsP p) (hb : Bal p l t d) : p ^ (l - 1 + 6).toNat ∣ mk p t d - mk p (ofMt p (l - 1) (mk p t d)) (ofMd p (l - 1) (mk p t d)) := by
  rw [ofM_mark h]
  have h1 := Int.dvd_neg.2 (dvd_emod_sub (mk p t d) (p ^ (l - 1 + 6).toNat))
  rwa [show -(mk p t d % p ^ (l - 1 + 6).toNat - mk p t d) = mk p t d - mk p t d % p ^ (l - 1 + 6).toNat by omega] at h1
/-- The parent of a ball: one step above it. -/
def ParOf (p l t d : Int) (c : S27) : Prop := Bal p c.f0 c.f1 c.f2 ∧ c.f0 = l - 1 ∧ p ^ (l - 1 + 6).toNat ∣ mk p t d - mk p c.f1 c.f2
theorem parOf {p l t d : Int} (h : IsP p) (hb : Bal p l t d) (hl : (ParR p l t d).2.2.2 = true) : ParOf p l t d ⟨(ParR p l t d).1, (ParR p l t d).2.1, (ParR p l t d).2.2.1⟩ := by
  unfold ParR at hl ⊢
  by_cases hz : -6 ≤ l - 1 ∧ l - 1 ≤ 6
  · rw [if_pos hz]
    exact ⟨ofM_bal h hz.1 hz.2 _, rfl, par_dvd h hb⟩
  · rw [if_neg hz] at hl
    exact absurd hl (by simp)
theorem par_bal {p lv t d : Int} (h : IsP p) (hb : Bal p lv t d) (hk : (ParR p lv t d).2.2.2 = true) : Bal p (ParR p lv t d).1 (ParR p lv t d).2.1 (ParR p lv t d).2.2.1 := (parOf h hb hk).1
theorem ups_l0 {q p b0 b1 b2 : Int} (hp : IsP p) : ∀ (n : Nat) (lv t d : Int), n ≤ 10 → Bal p lv t d → ∃ lv' t' d', Ev (fun k => spec_l01Two.l0 k q p n b0 b1 b2 lv t d) (q, b0, b1, b2, lv', t', d') ∧ Bal p lv' t' d' := by
  intro n
  induction n with
  | zero =>
    intro lv t d hn hb
    refine ⟨lv, t, d, Ev.step (fun k => by rw [spec_l01Two.l0]) ?_, hb⟩
    simp only [if_neg (show ¬ ((0 : Nat) : Int) > 0 by omega)]
    exact Ev.now _
  | succ n ih =>
    intro lv t d hn hb
    have ew : wrap64 (((n + 1 : Nat) : Int) - 1) = (n : Int) := by rw [wrap_id (by omega) (by omega)]; omega
    by_cases hk : (ParR p lv t d).2.2.2 = true
    · obtain ⟨lv', t', d', e, r⟩ := ih _ _ _ (by omega) (par_bal hp hb hk)
      refine ⟨lv', t', d', Ev.step (fun k => by rw [spec_l01Two.l0]) ?_, r⟩
      simp only [if_pos (show ((n + 1 : Nat) : Int) > 0 by omega)]
      rw [bnd (l01Parent_ev hp hb), ew]
      simp only [if_pos hk]
      exact e
    · obtain ⟨lv', t', d', e, r⟩ := ih lv t d (by omega) hb
      refine ⟨lv', t', d', Ev.step (fun k => by rw [spec_l01Two.l0]) ?_, r⟩
      simp only [if_pos (show ((n + 1 : Nat) : Int) > 0 by omega)]
      rw [bnd (l01Parent_ev hp hb), ew]
      simp only [if_neg hk]
      exact e
theorem Bal.smB {p l t d : Int} (hp : IsP p) (h : Bal p l t d) : SmB l t d := by
  have := Bal.sm hp h
  unfold SmB Sm; omega
theorem twoBalls_ev {l0 : List Int} (hbytes : ∀ x ∈ l0, (Lit.int .u8 x).wf = true) (hl : l0.length ≤ 4096) : ∃ p b0 b1 b2 c0 c1 c2, Ev (fun k => spec_l01Two.f k l0) (p, b0, b1, b2, c0, c1, c2) ∧ Sm p ∧ SmB b0 b1 b2 ∧ SmB c0 c1 c2 := by
  unfold spec_l01Two.f
  obtain ⟨h0, e0, s0⟩ := from_ev hbytes hl
  obtain ⟨p, b0, b1, b2, c1, h1, e1, r1, w1, s1⟩ := spoil_ev (h := h0) s0
  have w1' := w1
  unfold SmB Sm at w1'
  have go : ∀ q, IsP q → ∃ x0 x1 x2, Ev (fun k => spec_l01Two.j0 k p q l0 c1 h1 b0 b1 b2) (p, b0, b1, b2, x0, x1, x2) ∧ SmB x0 x1 x2 := by
    intro q hq
    obtain ⟨lv, t, d, c2, h2, e2, r2, s2⟩ := drawBall_ev (h := h1) hq s1
    obtain ⟨lv', t', d', c3, h3, e3, r3, s3⟩ := bad_eq (h := h2) s2 (Bal.sm hq r2)
    obtain ⟨x4, c4, h4, e4, r4, s4⟩ := next_eq (h := h3) s3 (show (1 : Int) ≤ 3 by omega)
    have no : ∀ c h, Ev (fun k => spec_l01Two.j1 k p q false l0 c h b0 b1 b2 lv' t' d') (p, b0, b1, b2, lv', t', d') := by
      intro c h
      refine Ev.step (fun k => by rw [spec_l01Two.j1]) ?_
      simp only [if_neg Bool.false_ne_true]
      exact Ev.now _
    by_cases hz : x4 = 0
    · by_cases hb : Bal q b0 b1 b2
      · obtain ⟨x5, c5, h5, e5, r5, s5⟩ := next_eq (h := h4) s4 (show (1 : Int) ≤ 4 by omega)
        obtain ⟨y0, y1, y2, e6, r6⟩ := ups_l0 (q := p) (b0 := b0) (b1 := b1) (b2 := b2) hq x5.toNat b0 b1 b2 (by omega) hb
        rw [show (x5.toNat : Int) = x5 by omega] at e6
        refine ⟨y0, y1, y2, Ev.step (fun k => by rw [spec_l01Two.j0]) ?_, Bal.smB hq r6⟩
        rw [bnd e2]
        simp only [e3, e4, Option.bind_some, if_pos hz]
        rw [bnd (l01Is_ev (by omega) (by omega))]
        simp only [decide_eq_true (show IsP q ∧ Bal q b0 b1 b2 from ⟨hq, hb⟩)]
        refine Ev.step (fun k => by rw [spec_l01Two.j1]) ?_
        simp only [if_true, e5, Option.bind_some]
        exact e6
      · refine ⟨lv', t', d', Ev.step (fun k => by rw [spec_l01Two.j0]) ?_, r3⟩
        rw [bnd e2]
        simp only [e3, e4, Option.bind_some, if_pos hz]
        rw [bnd (l01Is_ev (by omega) (by omega))]
        simp only [decide_eq_false (show ¬ (IsP q ∧ Bal q b0 b1 b2) from fun z => hb z.2)]
        exact no _ _
    · refine ⟨lv', t', d', Ev.step (fun k => by rw [spec_l01Two.j0]) ?_, r3⟩
      rw [bnd e2]
      simp only [e3, e4, Option.bind_some, if_neg hz]
      exact no _ _
  by_cases hp : IsP p
  · obtain ⟨x0, x1, x2, e, r⟩ := go p hp
    refine ⟨p, b0, b1, b2, x0, x1, x2, ?_, r1, w1, r⟩
    rw [bnd e0, bnd e1]
    simp only [l01Prime_eq, Option.bind_some, decide_eq_true hp, if_true]
    exact e
  · obtain ⟨x0, x1, x2, e, r⟩ := go 2 (by unfold IsP; omega)
    refine ⟨p, b0, b1, b2, x0, x1, x2, ?_, r1, w1, r⟩
    rw [bnd e0, bnd e1]
    simp only [l01Prime_eq, Option.bind_some, decide_eq_false hp, if_neg Bool.false_ne_true]
    exact e
theorem AddR_comm {p l t d l' t' d' : Int} : AddR p l t d l' t' d' = AddR p l' t' d' l t d := by
  unfold AddR
  by_cases h : IsP p ∧ Bal p l t d ∧ Bal p l' t' d'
  · have e : mn l l' = mn l' l := by unfold mn; (repeat' split) <;> omega
    rw [if_pos h, if_pos ⟨h.1, h.2.2, h.2.1⟩, e, Int.add_comm (mk p t d)]
  · rw [if_neg h, if_neg (fun z => h ⟨z.1, z.2.2, z.2.1⟩)]
theorem mk_ofM {p l x : Int} (h : IsP p) (l0 : -6 ≤ l) (h0 : 0 ≤ x) (h1 : x < p ^ (l + 6).toNat) : mk p (ofMt p l x) (ofMd p l x) = x := by
  rw [ofM_mark h, Int.emod_eq_of_lt h0 h1]
theorem opp_back {p l t d : Int} (h : IsP p) (hb : Bal p l t d) :
    OppR p (OppR p l t d).1 (OppR p l t d).2.1 (OppR p l t d).2.2.1 = (l, t, d, 0) ∧ AddR p l t d (OppR p l t d).1 (OppR p l t d).2.1 (OppR p l t d).2.2.1 = (l, 0, 0, 0) ∧ Bal p (OppR p l t d).1 (OppR p l t d).2.1 (OppR p l t d).2.2.1 := by
  have hr := Bal.sm h hb
  have hk := Bal.back h hb
  have bo := ofM_bal h hr.1.1 hr.1.2 (-mk p t d)
  have ho : OppR p l t d = (l, ofMt p l (-mk p t d), (ofMd p l (-mk p t d) : Int), 0) := by unfold OppR; rw [if_pos ⟨h, hb⟩]
  rw [ho]
  dsimp only
  have hd := dvd_emod_sub (-mk p t d) (p ^ (l + 6).toNat)
  refine ⟨?_, ?_, bo⟩
  · unfold OppR
    rw [if_pos ⟨h, bo⟩, ofM_mark h]
    have hc : p ^ (l + 6).toNat ∣ -(-mk p t d % p ^ (l + 6).toNat) - mk p t d := by
      have := Int.dvd_neg.2 hd
      rwa [show -(-mk p t d % p ^ (l + 6).toNat - -mk p t d) = -(-mk p t d % p ^ (l + 6).toNat) - mk p t d by omega] at this
    have e := ofM_congr (l := l) (emod_eq_of_dvd hc)
    rw [e.1, e.2, hk.1, hk.2]
  · unfold AddR
    have hm : mn l l = l := by unfold mn; split <;> rfl
    rw [if_pos ⟨h, hb, bo⟩, ofM_mark h, hm]
    have hc : p ^ (l + 6).toNat ∣ mk p t d + -mk p t d % p ^ (l + 6).toNat := by
      rwa [show -mk p t d % p ^ (l + 6).toNat - -mk p t d = mk p t d + -mk p t d % p ^ (l + 6).toNat by omega] at hd
    have e := ofM_zero_of_dvd hc
    rw [e.1, e.2]
    rfl
theorem mul_back {p l t d k : Int} (hz : (MulR p l t d k).2.2.2 = 0) :
    MulR p (MulR p l t d k).1 (MulR p l t d k).2.1 (MulR p l t d k).2.2.1 (-k) = (l, t, d, 0) ∧ (IsP p ∧ Bal p (MulR p l t d k).1 (MulR p l t d k).2.1 (MulR p l t d k).2.2.1) := by
  by_cases h : IsP p ∧ Bal p l t d
  · have hr := Bal.sm h.1 h.2
    have hk := Bal.back h.1 h.2
    have hm := h.2.mark h.1
    by_cases h1 : -20 ≤ k ∧ k ≤ 20
    · by_cases h2 : -6 ≤ l + k ∧ l + k ≤ 6
      · by_cases h3 : 0 ≤ k
        · have e : MulR p l t d k = (l + k, ofMt p (l + k) (mk p t d * p ^ k.toNat), (ofMd p (l + k) (mk p t d * p ^ k.toNat) : Int), 0) := by
            unfold MulR; rw [if_pos h, if_pos h1, if_pos h2, if_pos h3]
          rw [e]; dsimp only
          have b := ofM_bal h.1 h2.1 h2.2 (mk p t d * p ^ k.toNat)
          refine ⟨?_, h.1, b⟩
          have p0 := pow_pos' h.1 k.toNat
          have hlt : mk p t d * p ^ k.toNat < p ^ (l + k + 6).toNat := by
            have := Int.mul_lt_mul_of_pos_right hm.2 p0
            rwa [pow_split (show (l + 6).toNat + k.toNat = (l + k + 6).toNat by omega)] at this
          have hmk := mk_ofM h.1 h2.1 (Int.mul_nonneg hm.1 (Int.le_of_lt p0)) hlt
          unfold MulR
          rw [if_pos ⟨h.1, b⟩, if_pos (show -20 ≤ -k ∧ -k ≤ 20 by omega), if_pos (show -6 ≤ l + k + -k ∧ l + k + -k ≤ 6 by omega), hmk, show l + k + -k = l by omega, show - -k = k by omega]
          by_cases h4 : 0 ≤ -k
          · rw [if_pos h4, show (-k).toNat = 0 by omega, show k.toNat = 0 by omega]
            rw [Int.pow_zero, Int.mul_one, Int.mul_one, hk.1, hk.2]
          · rw [if_neg h4, if_pos ⟨mk p t d, Int.mul_comm _ _⟩, Int.mul_ediv_cancel _ (pow_ne' h.1 _), hk.1, hk.2]
        · by_cases h4 : p ^ (-k).toNat ∣ mk p t d
          · have e : MulR p l t d k = (l + k, ofMt p (l + k) (mk p t d / p ^ (-k).toNat), (ofMd p (l + k) (mk p t d / p ^ (-k).toNat) : Int), 0) := by
              unfold MulR; rw [if_pos h, if_pos h1, if_pos h2, if_neg h3, if_pos h4]
            rw [e]; dsimp only
            have b := ofM_bal h.1 h2.1 h2.2 (mk p t d / p ^ (-k).toNat)
            refine ⟨?_, h.1, b⟩
            have p0 := pow_pos' h.1 (-k).toNat
            have hq := Int.ediv_mul_cancel h4
            have hq0 : 0 ≤ mk p t d / p ^ (-k).toNat := Int.ediv_nonneg hm.1 (Int.le_of_lt p0)
            have hlt : mk p t d / p ^ (-k).toNat < p ^ (l + k + 6).toNat := by
              refine Int.ediv_lt_of_lt_mul p0 ?_
              rw [pow_split (show (l + k + 6).toNat + (-k).toNat = (l + 6).toNat by omega)]
              exact hm.2
            have hmk := mk_ofM h.1 h2.1 hq0 hlt
            unfold MulR
            rw [if_pos ⟨h.1, b⟩, if_pos (show -20 ≤ -k ∧ -k ≤ 20 by omega), if_pos (show -6 ≤ l + k + -k ∧ l + k + -k ≤ 6 by omega), if_pos (show 0 ≤ -k by omega), hmk, show l + k + -k = l by omega, hq, hk.1, hk.2]
          · unfold MulR at hz; rw [if_pos h, if_pos h1, if_pos h2, if_neg h3, if_neg h4] at hz
            exact absurd hz (by simp)
      · unfold MulR at hz; rw [if_pos h, if_pos h1, if_neg h2] at hz
        exact absurd hz (by simp)
    · unfold MulR at hz; rw [if_pos h, if_neg h1] at hz
      exact absurd hz (by simp)
  · unfold MulR at hz; rw [if_neg h] at hz
    exact absurd hz (by simp)
theorem likeInts_l (l : List Int) (hl : l.length ≤ 1000000) : ∀ d i : Nat, i + d = l.length → Ev (fun k => laws_likeInts.l0 k l l i) true := by
  intro d
  induction d with
  | zero =>
    intro i hi
    refine Ev.step (fun k => by rw [laws_likeInts.l0]) ?_
    simp only [if_neg (show ¬ (i : Int) < (l.length : Int) by omega)]
    exact Ev.now _
  | succ d ih =>
    intro i hi
    refine Ev.step (fun k => by rw [laws_likeInts.l0]) ?_
    simp only [if_pos (show (i : Int) < (l.length : Int) by omega), if_pos (show (0 : Int) ≤ i by omega), if_true]
    rw [wrap_id (x := (i : Int) + 1) (by omega) (by omega)]
    exact ih (i + 1) (by omega)
theorem likeInts_ev (l : List Int) (hl : l.length ≤ 1000000) : Ev (fun k => laws_likeInts.f k l l) true := by
  unfold laws_likeInts.f
  simp only [if_true]
  exact likeInts_l l hl l.length 0 (by omega)
theorem digs_snoc {p : Int} (hp : IsP p) : ∀ (n : Nat) (t : Int), digs p t (n + 1) = digs p t n ++ [t / p ^ n % p] := by
  intro n
  induction n with
  | zero => intro t; show [t % p] = [t / p ^ 0 % p]; rw [Int.pow_zero, Int.ediv_one]
  | succ n ih =>
    intro t
    rw [show digs p t (n + 1 + 1) = t % p :: digs p (t / p) (n + 1) from rfl, ih (t / p), show digs p t (n + 1) = t % p :: digs p (t / p) n from rfl, List.cons_append, Int.ediv_ediv_of_nonneg (Int.le_of_lt hp.pos), show p * p ^ n = p ^ (n + 1) by rw [Int.pow_succ, Int.mul_comm]]
theorem tops {p t x0 x1 x2 : Int} (hp : IsP p) (t0 : 0 ≤ t ∧ t ≤ 13841287201) (h1 : x1 = t) (xs : List Int) : ∀ (n : Nat) (post : List Int), n ≤ 12 → xs = digs p t n ++ post → Ev (fun k => laws_FnBallSums.l0 k p xs (t / p ^ n) ((n : Int) - 1) x0 x1 x2) true := by
  have h2 := hp.two_le
  have h7 := hp.le_seven
  intro n
  induction n with
  | zero =>
    intro post hn hx
    refine Ev.step (fun k => by rw [laws_FnBallSums.l0]) ?_
    simp only [if_neg (show ¬ ((0 : Nat) : Int) - 1 ≥ 0 by omega), Int.pow_zero, Int.ediv_one, if_pos h1.symm]
    exact Ev.now _
  | succ n ih =>
    intro post hn hx
    have hs := digs_snoc hp n t
    rw [hs, List.append_assoc] at hx
    have hl : xs.length = n + (post.length + 1) := by rw [hx, List.length_append, digs_length]; simp
    have hrd : rd xs (n : Int) = t / p ^ n % p := by
      have := rd_at (digs p t n) (t / p ^ n % p) post
      rw [digs_length] at this
      rw [hx]; exact this
    refine Ev.step (fun k => by rw [laws_FnBallSums.l0]) ?_
    rw [show (((n + 1 : Nat) : Int) - 1) = (n : Int) by omega]
    simp only [if_pos (show (n : Int) ≥ 0 by omega), if_pos (show (0 : Int) ≤ n by omega), if_pos (show (n : Int) < (xs.length : Int) by omega), hrd]
    have q0 : 0 ≤ t / p ^ (n + 1) := Int.ediv_nonneg t0.1 (Int.le_of_lt (pow_pos' hp _))
    have q1 : t / p ^ (n + 1) ≤ t := Int.ediv_le_self _ t0.1
    have r0 := Int.emod_nonneg (t / p ^ n) (show p ≠ 0 by omega)
    have r1 := Int.emod_lt_of_pos (t / p ^ n) hp.pos
    have hq : t / p ^ (n + 1) * p + t / p ^ n % p = t / p ^ n := by
      have e : t / p ^ (n + 1) = t / p ^ n / p := by
        rw [Int.ediv_ediv_of_nonneg (Int.le_of_lt (pow_pos' hp n)), Int.pow_succ]
      rw [e, Int.mul_comm]
      exact Int.mul_ediv_add_emod _ _
    have m1 : t / p ^ (n + 1) * p ≤ 13841287201 * 7 := Int.mul_le_mul (by omega) h7 (by omega) (by omega)
    have m0 : 0 ≤ t / p ^ (n + 1) * p := Int.mul_nonneg q0 (by omega)
    rw [wrap_id (x := t / p ^ (n + 1) * p) (by omega) (by omega), wrap_id (x := t / p ^ (n + 1) * p + t / p ^ n % p) (by omega) (by omega), hq, wrap_id (x := (n : Int) - 1) (by omega) (by omega)]
    exact ih (t / p ^ n % p :: post) (by omega) hx
theorem dig_end {p l t d : Int} (hp : IsP p) (hb : Bal p l t d) : t / p ^ (l + d).toNat = 0 := by
  by_cases hl : l + d ≤ 0
  · rw [Bal_low hl] at hb
    rw [hb.2.2.2.2.1]; exact Int.zero_ediv _
  · rw [Bal_high hl] at hb
    exact Int.ediv_eq_zero_of_lt hb.2.2.2.2.1 hb.2.2.2.2.2.1
theorem FnBallSums : laws_FnBallSums.Pure := by
  intro l0 hl0 hl1 hbytes
  refine Ev.rounds (g := fun k => laws_FnBallSums.f k l0) ?_
  unfold laws_FnBallSums.f laws_big.f
  simp only [Option.bind_some]
  by_cases hbig : (l0.length : Int) > 4096
  · simp only [decide_eq_true hbig, if_true]
    exact Ev.now _
  · simp only [decide_eq_false hbig, if_neg Bool.false_ne_true]
    have spoiled : ∃ p l t d c h h0, Ev (fun k => spec_l01From.f k l0) (l0, 0, h0) ∧ Ev (fun k => spec_l01Spoil.f k l0 0 h0) (p, l, t, d, c, h) ∧ SmB l t d ∧ Src l0 c := by
      obtain ⟨h0, e0, s0⟩ := from_ev hbytes (by omega)
      obtain ⟨p, l, t, d, c', h', e1, _, hw, s1⟩ := spoil_ev (h := h0) s0
      exact ⟨p, l, t, d, c', h', h0, e0, e1, hw, s1⟩
    have hj4 : Ev (fun k => laws_FnBallSums.j4 k l0) true := by
      obtain ⟨p, l, t, d, c, h, h0, e0, e1, hw, _⟩ := spoiled
      have hdraw : Ev (fun k => spec_DrawDigitsOfBall.f k l0) (p, l, t, d) := by
        unfold spec_DrawDigitsOfBall.f
        rw [bnd e0, bnd e1]; exact Ev.now _
      unfold SmB Sm at hw
      refine Ev.step (fun k => by rw [laws_FnBallSums.j4]) ?_
      rw [bnd hdraw]
      dsimp only
      have hdl := DigR_length p l t d
      rw [bnd (implDigits_ev (by omega) (by omega)), bnd (specDigits_ev (by omega) (by omega))]
      simp only [if_true]
      rw [bnd (likeInts_ev _ (by omega))]
      refine Ev.step (fun k => by rw [laws_FnBallSums.j5]) ?_
      simp only [Bool.not_true, if_neg Bool.false_ne_true]
      by_cases hb : IsP p ∧ Bal p l t d
      · have hr := Bal.sm hb.1 hb.2
        have hD : DigR p l t d = (digs p t (l + d).toNat, 0) := by unfold DigR; rw [if_pos hb]
        simp only [hD, if_true]
        have := tops (x0 := l) (x1 := t) (x2 := d) hb.1 hr.2.1 rfl (digs p t (l + d).toNat) (l + d).toNat [] (by omega) (by rw [List.append_nil])
        rw [dig_end hb.1 hb.2] at this
        rw [digs_length, wrap_id (by omega) (by omega)]
        exact this
      · have hD : DigR p l t d = ([], 1) := by unfold DigR; rw [if_neg hb]
        simp only [hD, if_neg (show ¬ (1 : Int) = 0 by omega)]
        exact Ev.now _
    have hj2 : Ev (fun k => laws_FnBallSums.j2 k l0) true := by
      obtain ⟨p, l, t, d, c, h, h0, e0, e1, hw, _⟩ := spoiled
      have hdraw : Ev (fun k => spec_DrawOppositeBall.f k l0) (p, l, t, d) := by
        unfold spec_DrawOppositeBall.f
        rw [bnd e0, bnd e1]; exact Ev.now _
      unfold SmB Sm at hw
      refine Ev.step (fun k => by rw [laws_FnBallSums.j2]) ?_
      rw [bnd hdraw]
      dsimp only
      rw [bnd (implOppositeBall_ev (by omega) (by omega)), bnd (specOppositeBall_ev (by omega) (by omega))]
      simp only [if_true, beq_self_eq_true, Bool.not_true, Bool.or_self]
      refine Ev.step (fun k => by rw [laws_FnBallSums.j3]) ?_
      simp only [if_neg Bool.false_ne_true]
      by_cases hb : IsP p ∧ Bal p l t d
      · have h0 : (OppR p l t d).2.2.2 = 0 := by unfold OppR; rw [if_pos hb]
        obtain ⟨o1, o2, o3⟩ := opp_back hb.1 hb.2
        have hr := Bal.sm hb.1 o3
        simp only [if_pos h0]
        rw [bnd (implOppositeBall_ev (by omega) (by omega)), bnd (implAddBalls_ev (by omega) (by omega) (by omega) (by omega)), o1, o2]
        simp only [if_true, beq_self_eq_true, Bool.not_true, Bool.or_self, if_neg Bool.false_ne_true]
        exact hj4
      · have h0 : (OppR p l t d).2.2.2 = 1 := by unfold OppR; rw [if_neg hb]
        simp only [h0, if_neg (show ¬ (1 : Int) = 0 by omega)]
        exact hj4
    have hj0 : Ev (fun k => laws_FnBallSums.j0 k l0 false) true := by
      obtain ⟨p, l, t, d, c, h, h0, e0, e1, hw, s1⟩ := spoiled
      obtain ⟨x2, c2, h2, e2, r2, s2⟩ := next_eq (h := h) s1 (show (1 : Int) ≤ 43 by omega)
      obtain ⟨kk, c3, h3, e3, r3, s3⟩ := pick_eq (h := h2) (xs := [0, 1, -1, 2, -2, wrap64 (x2 - 21)]) s2 (by simp) (by simp)
      have hdraw : Ev (fun k => spec_DrawMultiplyBall.f k l0) (p, l, t, d, kk) := by
        unfold spec_DrawMultiplyBall.f
        rw [bnd e0, bnd e1]
        simp only [e2, e3, Option.bind_some]
        exact Ev.now _
      have hkk : -21 ≤ kk ∧ kk ≤ 21 := by
        rw [wrap_id (x := x2 - 21) (by omega) (by omega)] at r3
        simp only [List.mem_cons, List.not_mem_nil, or_false] at r3; omega
      unfold SmB Sm at hw
      refine Ev.step (fun k => by rw [laws_FnBallSums.j0]) ?_
      simp only [if_neg Bool.false_ne_true]
      rw [bnd hdraw]
      dsimp only
      rw [bnd (implMultiplyBall_ev (by omega) (by omega)), bnd (specMultiplyBall_ev (by omega) (by omega))]
      simp only [if_true, beq_self_eq_true, Bool.not_true, Bool.or_self]
      refine Ev.step (fun k => by rw [laws_FnBallSums.j1]) ?_
      simp only [if_neg Bool.false_ne_true]
      by_cases hz : (MulR p l t d kk).2.2.2 = 0
      · obtain ⟨m1, m2, m3⟩ := mul_back hz
        have hr := Bal.sm m2 m3
        simp only [if_pos hz]
        rw [wrap_id (x := -kk) (by omega) (by omega), bnd (implMultiplyBall_ev (by omega) (by omega)), m1]
        simp only [if_true, beq_self_eq_true, Bool.not_true, Bool.or_self, if_neg Bool.false_ne_true]
        exact hj2
      · simp only [if_neg hz]
        exact hj2
    obtain ⟨p, b0, b1, b2, x0, x1, x2, e1, _, w1, w2⟩ := twoBalls_ev hbytes (by omega)
    have hdraw : Ev (fun k => spec_DrawAddBalls.f k l0) (p, b0, b1, b2, x0, x1, x2) := by
      unfold spec_DrawAddBalls.f
      rw [bnd e1]; exact Ev.now _
    unfold SmB Sm at w1 w2
    rw [bnd hdraw]
    dsimp only
    rw [bnd (implAddBalls_ev (by omega) (by omega) (by omega) (by omega)), bnd (specAddBalls_ev (by omega) (by omega) (by omega) (by omega)), bnd (implAddBalls_ev (by omega) (by omega) (by omega) (by omega)), AddR_comm (l := x0)]
    simp only [if_true, beq_self_eq_true, Bool.not_true, Bool.or_self, if_neg Bool.false_ne_true]
    exact hj0

end Go.Proofs.Ytpmepopagapeiaa.Pure

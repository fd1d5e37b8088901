/- GeodesicOf and the reference's GeodesicOf answer the same for every prime and every two balls, in memory of their own. No condition. -/
import Derived.Test.YtpmepopagapeiaaPFnExactGeodesicOfx6
import Derived.Test.YtpmepopagapeiaaMath
namespace Go.Proofs.Ytpmepopagapeiaa.Pure
open Go.RowKit Go.Proofs.Ytpmepopagapeiaa.PFnExactGeodesicOf Go.Proofs.YtpmepopagapeiaaW.PrintWords Go.Proofs.YtpmepopagapeiaaW.PrintLast Go.Proofs.YtpmepopagapeiaaW.PrintMore Go.Proofs.Ytpmepopagapeiaa.Math
set_option linter.unusedVariables false
set_option linter.unusedSimpArgs false
theorem isPrime_eq (p : Int) : impl_isPrime.f p = some (decide (IsP p)) := by
  unfold impl_isPrime.f IsP
  by_cases h2 : p = 2
  · subst h2; rfl
  by_cases h3 : p = 3
  · subst h3; rfl
  by_cases h5 : p = 5
  · subst h5; rfl
  by_cases h7 : p = 7
  · subst h7; rfl
  simp [h2, h3, h5, h7]
theorem l01Prime_eq (p : Int) : spec_l01Prime.f p = some (decide (IsP p)) := by
  unfold spec_l01Prime.f IsP
  by_cases h2 : p = 2
  · subst h2; rfl
  by_cases h3 : p = 3
  · subst h3; rfl
  by_cases h5 : p = 5
  · subst h5; rfl
  by_cases h7 : p = 7
  · subst h7; rfl
  simp [h2, h3, h5, h7]
theorem l01In_eq (n a b : Int) : spec_l01In.f n a b = some (decide (a ≤ n ∧ n ≤ b)) := by
  unfold spec_l01In.f
  by_cases h : n ≥ a
  · rw [if_pos h]; simp [h]
  · rw [if_neg h]; simp; omega
theorem isLevel_eq (n : Int) : impl_isLevel.f n = some (decide (-6 ≤ n ∧ n ≤ 6)) := by
  unfold impl_isLevel.f
  by_cases h : n ≥ (-6)
  · rw [if_pos h]; simp [h]
  · rw [if_neg h]; simp; omega
theorem power_l {p : Int} (h : IsP p) (n : Nat) (hn : p ^ n ≤ 9223372036854775807) (hn' : n ≤ 1000) : ∀ d i, i + d = n → Ev (fun k => impl_power.l0 k p (p ^ i) n i) (p ^ n) := by
  intro d
  induction d with
  | zero =>
    intro i hi
    obtain rfl : i = n := by omega
    refine Ev.step (fun k => by rw [impl_power.l0]) ?_
    simp only [if_neg (Int.lt_irrefl _)]
    exact Ev.now _
  | succ d ih =>
    intro i hi
    refine Ev.step (fun k => by rw [impl_power.l0]) ?_
    have h1 : (i : Int) < n := by omega
    have h2 := pow_pos' h (i + 1)
    have h3 := pow_mono h (m := i + 1) (n := n) (by omega)
    have e1 : wrap64 (p ^ i * p) = p ^ (i + 1) := by rw [← show p ^ (i + 1) = p ^ i * p from Int.pow_succ p i]; exact wrap_id (by omega) (by omega)
    have e2 : wrap64 ((i : Int) + 1) = ((i + 1 : Nat) : Int) := by rw [wrap_id (by omega) (by omega)]; omega
    simp only [if_pos h1, e1, e2]
    exact ih (i + 1) (by omega)
theorem power_big {p : Int} (h : IsP p) {n : Nat} (hn : p ^ n ≤ 9223372036854775807) (hn' : n ≤ 1000) : Ev (fun k => impl_power.f k p n) (p ^ n) := by
  unfold impl_power.f
  have := power_l h n hn hn' n 0 (by omega)
  rw [Int.pow_zero] at this
  exact this
theorem power_ev {p : Int} (h : IsP p) {n : Int} (hn : n ≤ 22) : Ev (fun k => impl_power.f k p n) (p ^ n.toNat) := by
  by_cases h0 : 0 ≤ n
  · have := power_big h (n := n.toNat) (by have := pow_le_22 h (n := n.toNat) (by omega); omega) (by omega)
    rw [Int.toNat_of_nonneg h0] at this
    exact this
  · unfold impl_power.f
    refine Ev.step (fun k => by rw [impl_power.l0]) ?_
    have e : n.toNat = 0 := by omega
    simp only [if_neg (show ¬ (0 : Int) < n by omega), e, Int.pow_zero]
    exact Ev.now _
theorem l01Power_l {p : Int} (h : IsP p) : ∀ (d : Nat) (i : Nat), p ^ (i + d) ≤ 9223372036854775807 → i + d ≤ 1000 → Ev (fun k => spec_l01Power.l0 k p d (p ^ i)) (p ^ (i + d)) := by
  intro d
  induction d with
  | zero =>
    intro i _ _
    refine Ev.step (fun k => by rw [spec_l01Power.l0]) ?_
    simp only [if_neg (show ¬ ((0 : Nat) : Int) > 0 by omega)]
    exact Ev.now _
  | succ d ih =>
    intro i hi hi'
    refine Ev.step (fun k => by rw [spec_l01Power.l0]) ?_
    have h2 := pow_pos' h (i + 1)
    have h3 := pow_mono h (m := i + 1) (n := i + (d + 1)) (by omega)
    have e1 : wrap64 (p ^ i * p) = p ^ (i + 1) := by rw [← show p ^ (i + 1) = p ^ i * p from Int.pow_succ p i]; exact wrap_id (by omega) (by omega)
    have e2 : wrap64 (((d + 1 : Nat) : Int) - 1) = (d : Int) := by rw [wrap_id (by omega) (by omega)]; omega
    simp only [if_pos (show ((d + 1 : Nat) : Int) > 0 by omega), e1, e2]
    have e3 : i + (d + 1) = i + 1 + d := by omega
    rw [e3] at hi ⊢
    exact ih (i + 1) hi (by omega)
theorem l01Power_big {p : Int} (h : IsP p) {n : Nat} (hn : p ^ n ≤ 9223372036854775807) (hn' : n ≤ 1000) : Ev (fun k => spec_l01Power.f k p n) (p ^ n) := by
  unfold spec_l01Power.f
  have := l01Power_l h n 0 (by rw [Nat.zero_add]; exact hn) (by omega)
  rw [Int.pow_zero, Nat.zero_add] at this
  exact this
theorem l01Power_ev {p : Int} (h : IsP p) {n : Int} (hn : n ≤ 22) : Ev (fun k => spec_l01Power.f k p n) (p ^ n.toNat) := by
  by_cases h0 : 0 ≤ n
  · have := l01Power_big h (n := n.toNat) (by have := pow_le_22 h (n := n.toNat) (by omega); omega) (by omega)
    rw [Int.toNat_of_nonneg h0] at this
    exact this
  · unfold spec_l01Power.f
    refine Ev.step (fun k => by rw [spec_l01Power.l0]) ?_
    have e : n.toNat = 0 := by omega
    simp only [if_neg (show ¬ n > 0 by omega), e, Int.pow_zero]
    exact Ev.now _
theorem l01Power_any {p x : Int} (h : IsP p) (hx : x ≠ 0) (h0 : -9223372036854775807 ≤ x) (h1 : x ≤ 9223372036854775807) : Ev (fun k => spec_l01Power.f k p (vl p x)) (p ^ vl p x) :=
  l01Power_big h (by have := pow_vl_le h hx; omega) (by have := vl_le_62 h hx h0 h1; omega)
theorem valuation_l {p : Int} (h : IsP p) : ∀ (v : Nat) (u : Int) (n : Int), ¬ p ∣ u → -9223372036854775807 ≤ p ^ v * u → p ^ v * u ≤ 9223372036854775807 → 0 ≤ n → n + v ≤ 1000 → Ev (fun k => impl_valuation.l0 k p (p ^ v * u) n) (n + v) := by
  intro v
  induction v with
  | zero =>
    intro u n hu h0 h1 hn hv
    refine Ev.step (fun k => by rw [impl_valuation.l0]) ?_
    have hne : ¬ Int.tmod (p ^ 0 * u) p = 0 := fun e => by
      rw [tmod_zero_iff, Int.pow_zero, Int.one_mul] at e; exact hu e
    simp only [if_neg h.ne, if_neg hne]
    exact ev_some (by simp)
  | succ v ih =>
    intro u n hu h0 h1 hn hv
    refine Ev.step (fun k => by rw [impl_valuation.l0]) ?_
    have e0 : p ^ (v + 1) * u = p * (p ^ v * u) := by rw [Int.pow_succ, Int.mul_comm (p ^ v) p, Int.mul_assoc]
    have hd : Int.tmod (p ^ (v + 1) * u) p = 0 := by rw [tmod_zero_iff, e0]; exact Int.dvd_mul_right _ _
    have e1 : Int.tdiv (p ^ (v + 1) * u) p = p ^ v * u := by rw [e0]; exact tdiv_mul_left h.ne
    have hb := tdiv_bounds (n := p ^ (v + 1) * u) (m := p)
    rw [e1] at hb
    have e2 : wrap64 (p ^ v * u) = p ^ v * u := wrap_id (by omega) (by omega)
    have e3 : wrap64 (n + 1) = n + 1 := wrap_id (by omega) (by omega)
    simp only [if_neg h.ne, if_pos hd, e1, e2, e3]
    exact ev_eq (ih u (n + 1) hu (by omega) (by omega) (by omega) (by omega)) (by omega)
theorem valuation_ev {p : Int} (h : IsP p) {x : Int} (hx : x ≠ 0) (h0 : -9223372036854775807 ≤ x) (h1 : x ≤ 9223372036854775807) : Ev (fun k => impl_valuation.f k p x) (vl p x) := by
  unfold impl_valuation.f
  simp only [if_neg hx]
  obtain ⟨u, hu, hnd, _⟩ := vl_split h x hx
  have hv := vl_le_62 h hx h0 h1
  have := valuation_l h (vl p x) u 0 hnd (by omega) (by omega) (by omega) (by omega)
  rw [← hu, Int.zero_add] at this
  exact this
theorem valuation_zero (k : Nat) (p : Int) : impl_valuation.f k p 0 = some 1000 := by unfold impl_valuation.f; rw [if_pos rfl]
theorem valuation_zero_ev (p : Int) : Ev (fun k => impl_valuation.f k p 0) 1000 := ⟨0, fun k _ => valuation_zero k p⟩
/-- Of every number: 1000 for 0. -/
def vx (p x : Int) : Int := if x = 0 then 1000 else vl p x
theorem valuation_any {p : Int} (h : IsP p) {x : Int} (h0 : -9223372036854775807 ≤ x) (h1 : x ≤ 9223372036854775807) : Ev (fun k => impl_valuation.f k p x) (vx p x) := by
  unfold vx
  by_cases hx : x = 0
  · subst hx; rw [if_pos rfl]; exact valuation_zero_ev p
  · rw [if_neg hx]; exact valuation_ev h hx h0 h1
theorem l01Val_l {p : Int} (h : IsP p) : ∀ (v : Nat) (u : Int) (n : Int), ¬ p ∣ u → -9223372036854775807 ≤ p ^ v * u → p ^ v * u ≤ 9223372036854775807 → 0 ≤ n → n + v ≤ 1000 → Ev (fun k => spec_l01Val.l0 k p (p ^ v * u) n) (n + v) := by
  intro v
  induction v with
  | zero =>
    intro u n hu h0 h1 hn hv
    refine Ev.step (fun k => by rw [spec_l01Val.l0]) ?_
    have hne : ¬ Int.tmod (p ^ 0 * u) p = 0 := fun e => by
      rw [tmod_zero_iff, Int.pow_zero, Int.one_mul] at e; exact hu e
    simp only [if_neg h.ne, if_neg hne]
    exact ev_some (by simp)
  | succ v ih =>
    intro u n hu h0 h1 hn hv
    refine Ev.step (fun k => by rw [spec_l01Val.l0]) ?_
    have e0 : p ^ (v + 1) * u = p * (p ^ v * u) := by rw [Int.pow_succ, Int.mul_comm (p ^ v) p, Int.mul_assoc]
    have hd : Int.tmod (p ^ (v + 1) * u) p = 0 := by rw [tmod_zero_iff, e0]; exact Int.dvd_mul_right _ _
    have e1 : Int.tdiv (p ^ (v + 1) * u) p = p ^ v * u := by rw [e0]; exact tdiv_mul_left h.ne
    have hb := tdiv_bounds (n := p ^ (v + 1) * u) (m := p)
    rw [e1] at hb
    have e2 : wrap64 (p ^ v * u) = p ^ v * u := wrap_id (by omega) (by omega)
    have e3 : wrap64 (n + 1) = n + 1 := wrap_id (by omega) (by omega)
    simp only [if_neg h.ne, if_pos hd, e1, e2, e3]
    exact ev_eq (ih u (n + 1) hu (by omega) (by omega) (by omega) (by omega)) (by omega)
theorem l01Val_ev {p : Int} (h : IsP p) {x : Int} (hx : x ≠ 0) (h0 : -9223372036854775807 ≤ x) (h1 : x ≤ 9223372036854775807) : Ev (fun k => spec_l01Val.f k p x) (vl p x) := by
  unfold spec_l01Val.f
  obtain ⟨u, hu, hnd, _⟩ := vl_split h x hx
  have hv := vl_le_62 h hx h0 h1
  have := l01Val_l h (vl p x) u 0 hnd (by omega) (by omega) (by omega) (by omega)
  rw [← hu, Int.zero_add] at this
  exact this
theorem mod_ev {n m : Int} (hm : 0 < m) (hm' : m ≤ 4611686018427387904) : impl_mod.f n m = some (n % m) := by
  unfold impl_mod.f
  have hb := mod_between (n := n) hm
  rw [if_neg (show ¬ m = 0 by omega), wrap_id (by omega) (by omega), mod_eq hm]
theorem IsBall_ev {p l t d : Int} (hl : -9223372036854775808 ≤ l ∧ l ≤ 9223372036854775807) (hd : -9223372036854775808 ≤ d ∧ d ≤ 9223372036854775807) :
    Ev (fun k => impl_IsBall.f k p l t d) (decide (IsP p ∧ Bal p l t d)) := by
  unfold impl_IsBall.f
  simp only [isPrime_eq, isLevel_eq, Option.bind_some]
  have bad : ∀ {c : Prop} [Decidable c], ¬ c → Ev (fun k => impl_IsBall.j0 k p true l t d) (decide c) := by
    intro c _ hc
    refine Ev.step (fun k => by rw [impl_IsBall.j0]) ?_
    simp only [if_true]
    exact ev_some (by simp [hc])
  by_cases hp : IsP p
  · simp only [hp, decide_true, if_true]
    by_cases h1 : -6 ≤ l ∧ l ≤ 6
    · simp only [h1, decide_true, if_true, and_self]
      by_cases h2 : d < 0
      · simp only [if_pos h2]
        exact bad (by unfold Bal; omega)
      · simp only [if_neg h2]
        by_cases h3 : d > 6
        · simp only [h3, decide_true]
          exact bad (by unfold Bal; omega)
        · simp only [h3, decide_false]
          refine Ev.step (fun k => by rw [impl_IsBall.j0]) ?_
          have e : wrap64 (l + d) = l + d := wrap_id (by omega) (by omega)
          simp only [if_neg Bool.false_ne_true, e]
          by_cases h4 : l + d ≤ 0
          · simp only [if_pos h4]
            by_cases h5 : t = 0
            · simp only [if_pos h5]
              exact ev_dec (by rw [Bal_low h4]; simp [hp, h5]; omega)
            · simp only [if_neg h5]
              exact ev_dec (by rw [Bal_low h4]; simp [h5])
          · simp only [if_neg h4]
            have hpw := pow_pos' hp (l + d).toNat
            by_cases h5 : t ≥ 0
            · simp only [if_pos h5]
              rw [bnd (power_ev hp (by omega))]
              by_cases h6 : t < p ^ (l + d).toNat
              · simp only [if_pos h6]
                by_cases h7 : d = 0
                · simp only [if_pos h7]
                  exact ev_dec (by rw [Bal_high h4]; simp [hp, h7] at h6 ⊢; omega)
                · simp only [if_neg h7, if_neg hp.ne]
                  refine ev_dec ?_
                  rw [Bal_high h4]
                  by_cases h8 : p ∣ t <;> simp [hp, h7, tmod_zero_iff, h8] <;> omega
              · simp only [if_neg h6]
                exact ev_dec (by rw [Bal_high h4]; simp [hp]; omega)
            · simp only [if_neg h5]
              exact ev_dec (by rw [Bal_high h4]; simp [hp]; omega)
    · simp only [h1, decide_false, if_neg Bool.false_ne_true]
      exact bad (by unfold Bal; omega)
  · simp only [hp, decide_false, if_neg Bool.false_ne_true]
    exact bad (by simp)
theorem l01Is_ev {p l t d : Int} (hl : -9223372036854775808 ≤ l ∧ l ≤ 9223372036854775807) (hd : -9223372036854775808 ≤ d ∧ d ≤ 9223372036854775807) :
    Ev (fun k => spec_l01Is.f k p l t d) (decide (IsP p ∧ Bal p l t d)) := by
  unfold spec_l01Is.f
  simp only [l01Prime_eq, l01In_eq, Option.bind_some]
  have bad : ∀ {c : Prop} [Decidable c], ¬ c → Ev (fun k => spec_l01Is.j0 k p true l t d) (decide c) := by
    intro c _ hc
    refine Ev.step (fun k => by rw [spec_l01Is.j0]) ?_
    simp only [if_true]
    exact ev_some (by simp [hc])
  by_cases hp : IsP p
  · simp only [hp, decide_true, if_true]
    by_cases h1 : -6 ≤ l ∧ l ≤ 6
    · simp only [h1, decide_true, if_true, and_self]
      by_cases h2 : 0 ≤ d ∧ d ≤ 6
      · simp only [h2, decide_true, and_self, Bool.not_true]
        refine Ev.step (fun k => by rw [spec_l01Is.j0]) ?_
        have e : wrap64 (l + d) = l + d := wrap_id (by omega) (by omega)
        simp only [if_neg Bool.false_ne_true, e]
        by_cases h4 : l + d ≤ 0
        · simp only [if_pos h4]
          by_cases h5 : t = 0
          · simp only [if_pos h5]
            exact ev_dec (by rw [Bal_low h4]; simp [hp, h5]; omega)
          · simp only [if_neg h5]
            exact ev_dec (by rw [Bal_low h4]; simp [h5])
        · simp only [if_neg h4]
          have hpw := pow_pos' hp (l + d).toNat
          have hpw2 := pow_le_22 hp (n := (l + d).toNat) (by omega)
          rw [bnd (l01Power_ev hp (by omega))]
          have e2 : wrap64 (p ^ (l + d).toNat - 1) = p ^ (l + d).toNat - 1 := wrap_id (by omega) (by omega)
          simp only [l01In_eq, Option.bind_some, e2]
          by_cases h6 : 0 ≤ t ∧ t ≤ p ^ (l + d).toNat - 1
          · simp only [h6, decide_true, if_true, and_self]
            by_cases h7 : d = 0
            · simp only [if_pos h7]
              exact ev_dec (by rw [Bal_high h4]; simp [hp, h7] at h6 ⊢; omega)
            · simp only [if_neg h7, if_neg hp.ne]
              refine ev_dec ?_
              rw [Bal_high h4]
              by_cases h8 : p ∣ t <;> simp [hp, h7, tmod_zero_iff, h8] <;> omega
          · simp only [h6, decide_false, if_neg Bool.false_ne_true]
            exact ev_dec (by rw [Bal_high h4]; simp [hp]; omega)
      · simp only [h2, decide_false, Bool.not_false]
        exact bad (by unfold Bal; omega)
    · simp only [h1, decide_false, if_neg Bool.false_ne_true]
      exact bad (by unfold Bal; omega)
  · simp only [hp, decide_false, if_neg Bool.false_ne_true]
    exact bad (by simp)
def BallOk (p : Int) (b : S27) : Prop := Bal p b.f0 b.f1 b.f2
instance (p : Int) (b : S27) : Decidable (BallOk p b) := by unfold BallOk; infer_instance
def BallWf (b : S27) : Prop := (-9223372036854775808 ≤ b.f0 ∧ b.f0 ≤ 9223372036854775807) ∧ (-9223372036854775808 ≤ b.f2 ∧ b.f2 ≤ 9223372036854775807)
theorem rd_ball_at (pre : List S27) (b : S27) (ys : List S27) : rd_T27 (pre ++ b :: ys) (pre.length : Int) = b := by
  unfold rd_T27
  simp [List.getD_eq_getElem?_getD]
theorem l01Code_l {p : Int} (hp : IsP p) : ∀ (ys pre : List S27), (pre ++ ys).length ≤ 1000 → (∀ b ∈ ys, BallWf b) → Ev (fun k => spec_l01Code.l0 k p (pre ++ ys) pre.length) (if ∀ b ∈ ys, BallOk p b then 0 else 1) := by
  intro ys
  induction ys with
  | nil =>
    intro pre _ _
    refine Ev.step (fun k => by rw [spec_l01Code.l0]) ?_
    simp only [List.append_nil, if_neg (Int.lt_irrefl _)]
    exact ev_some (by simp)
  | cons b ys ih =>
    intro pre hl hw
    refine Ev.step (fun k => by rw [spec_l01Code.l0]) ?_
    have hl' : (pre ++ b :: ys).length = pre.length + (ys.length + 1) := by simp
    have h1 : (pre.length : Int) < ((pre ++ b :: ys).length : Int) := by omega
    simp only [if_pos h1, if_pos (show (0 : Int) ≤ (pre.length : Int) by omega), rd_ball_at]
    have hb := hw b (by simp)
    rw [bnd (l01Is_ev hb.1 hb.2)]
    by_cases hB : Bal p b.f0 b.f1 b.f2
    · simp only [hp, hB, and_self, decide_true, if_true]
      have e : wrap64 ((pre.length : Int) + 1) = ((pre ++ [b]).length : Int) := by rw [wrap_id (by omega) (by omega)]; simp
      have := ih (pre ++ [b]) (by simpa using hl) (fun c hc => hw c (by simp [hc]))
      rw [e]
      simp only [List.append_assoc, List.singleton_append] at this
      refine ev_eq this ?_
      have : (∀ c ∈ b :: ys, BallOk p c) ↔ (∀ c ∈ ys, BallOk p c) := by simp [BallOk, hB]
      simp only [this]
    · simp only [hp, hB, and_false, decide_false, if_neg Bool.false_ne_true]
      refine ev_some ?_
      rw [if_neg]
      intro hall
      exact hB (hall b (by simp))
theorem l01Code_ev {p : Int} {ys : List S27} (hl : ys.length ≤ 1000) (hw : ∀ b ∈ ys, BallWf b) : Ev (fun k => spec_l01Code.f k p ys) (if IsP p ∧ ∀ b ∈ ys, BallOk p b then 0 else 1) := by
  unfold spec_l01Code.f
  simp only [l01Prime_eq, Option.bind_some]
  by_cases hp : IsP p
  · simp only [hp, decide_true, if_true, true_and]
    exact l01Code_l hp ys [] (by simpa using hl) hw
  · simp only [hp, decide_false, if_neg Bool.false_ne_true, false_and, if_false]
    exact Ev.now _
theorem l01Code2 {p l t d l' t' d' : Int} (hl : -9223372036854775808 ≤ l ∧ l ≤ 9223372036854775807) (hd : -9223372036854775808 ≤ d ∧ d ≤ 9223372036854775807)
    (hl' : -9223372036854775808 ≤ l' ∧ l' ≤ 9223372036854775807) (hd' : -9223372036854775808 ≤ d' ∧ d' ≤ 9223372036854775807) :
    Ev (fun k => spec_l01Code.f k p [⟨l, t, d⟩, ⟨l', t', d'⟩]) (if IsP p ∧ Bal p l t d ∧ Bal p l' t' d' then 0 else 1) := by
  refine ev_eq (l01Code_ev (by simp) (by intro b hb; simp at hb; rcases hb with rfl | rfl; exact ⟨hl, hd⟩; exact ⟨hl', hd'⟩)) ?_
  simp [BallOk]
theorem areBalls_l {p : Int} (hp : IsP p) : ∀ (ys pre : List S27), (pre ++ ys).length ≤ 1000 → (∀ b ∈ ys, BallWf b) → Ev (fun k => impl_areBalls.l0 k p (pre ++ ys) ((pre ++ ys).length : Int) pre.length) (decide (∀ b ∈ ys, BallOk p b)) := by
  intro ys
  induction ys with
  | nil =>
    intro pre _ _
    refine Ev.step (fun k => by rw [impl_areBalls.l0]) ?_
    simp only [List.append_nil, if_neg (Int.lt_irrefl _)]
    simp only [isPrime_eq, Option.bind_some, hp]
    exact ev_some (by simp)
  | cons b ys ih =>
    intro pre hl hw
    refine Ev.step (fun k => by rw [impl_areBalls.l0]) ?_
    have hl' : (pre ++ b :: ys).length = pre.length + (ys.length + 1) := by simp
    have h1 : (pre.length : Int) < ((pre ++ b :: ys).length : Int) := by omega
    simp only [if_pos h1, if_pos (show (0 : Int) ≤ (pre.length : Int) by omega), rd_ball_at]
    have hb := hw b (by simp)
    rw [bnd (IsBall_ev hb.1 hb.2)]
    by_cases hB : Bal p b.f0 b.f1 b.f2
    · simp only [hp, hB, and_self, decide_true, if_true]
      have e : wrap64 ((pre.length : Int) + 1) = ((pre ++ [b]).length : Int) := by rw [wrap_id (by omega) (by omega)]; simp
      have := ih (pre ++ [b]) (by simpa using hl) (fun c hc => hw c (by simp [hc]))
      rw [e]
      simp only [List.append_assoc, List.singleton_append] at this
      refine ev_eq this ?_
      have : (∀ c ∈ b :: ys, BallOk p c) ↔ (∀ c ∈ ys, BallOk p c) := by simp [BallOk, hB]
      simp only [this]
    · simp only [hp, hB, and_false, decide_false, if_neg Bool.false_ne_true]
      refine ev_some ?_
      symm
      rw [decide_eq_false_iff_not]
      intro hall
      exact hB (hall b (by simp))
theorem areBalls_no {p : Int} (hp : ¬ IsP p) : ∀ (ys : List S27), ys.length ≤ 1000 → (∀ b ∈ ys, BallWf b) → Ev (fun k => impl_areBalls.f k p ys) false := by
  intro ys hl hw
  unfold impl_areBalls.f
  refine Ev.step (fun k => by rw [impl_areBalls.l0]) ?_
  cases ys with
  | nil =>
    simp only [List.length_nil, if_neg (show ¬ (0 : Int) < ((0 : Nat) : Int) by omega)]
    simp only [isPrime_eq, Option.bind_some, hp]
    exact ev_some (by simp)
  | cons b ys =>
    have h1 : (0 : Int) < ((b :: ys).length : Int) := by rw [List.length_cons]; omega
    have h2 := rd_ball_at [] b ys
    simp only [List.nil_append, List.length_nil] at h2
    simp only [if_pos h1, if_pos (Int.le_refl 0)]
    have hb := hw b (by simp)
    have h3 : rd_T27 (b :: ys) 0 = b := h2
    rw [h3, bnd (IsBall_ev hb.1 hb.2)]
    simp only [hp, false_and, decide_false, if_neg Bool.false_ne_true]
    exact Ev.now _
theorem areBalls_ev {p : Int} {ys : List S27} (hl : ys.length ≤ 1000) (hw : ∀ b ∈ ys, BallWf b) : Ev (fun k => impl_areBalls.f k p ys) (decide (IsP p ∧ ∀ b ∈ ys, BallOk p b)) := by
  by_cases hp : IsP p
  · unfold impl_areBalls.f
    refine ev_eq (areBalls_l hp ys [] (by simpa using hl) hw) (by simp [hp])
  · refine ev_eq (areBalls_no hp ys hl hw) (by simp [hp])
theorem areBalls2 {p l t d l' t' d' : Int} (hl : -9223372036854775808 ≤ l ∧ l ≤ 9223372036854775807) (hd : -9223372036854775808 ≤ d ∧ d ≤ 9223372036854775807)
    (hl' : -9223372036854775808 ≤ l' ∧ l' ≤ 9223372036854775807) (hd' : -9223372036854775808 ≤ d' ∧ d' ≤ 9223372036854775807) :
    Ev (fun k => impl_areBalls.f k p [⟨l, t, d⟩, ⟨l', t', d'⟩]) (decide (IsP p ∧ Bal p l t d ∧ Bal p l' t' d')) := by
  refine ev_eq (areBalls_ev (by simp) (by intro b hb; simp at hb; rcases hb with rfl | rfl; exact ⟨hl, hd⟩; exact ⟨hl', hd'⟩)) ?_
  simp [BallOk]
theorem l01MulMod_eq {a b m : Int} (h0 : 0 < m) (h1 : m ≤ 100000000000) : spec_l01MulMod.f a b m = some (a * b % m) := by
  unfold spec_l01MulMod.f
  have ha := mod_between (n := a) h0
  have hb := mod_between (n := b) h0
  have ea : wrap64 (Int.tmod a m + m) = Int.tmod a m + m := wrap_id (by omega) (by omega)
  have eb : wrap64 (Int.tmod b m + m) = Int.tmod b m + m := wrap_id (by omega) (by omega)
  have a0 := Int.emod_nonneg a (Int.ne_of_gt h0)
  have a1 := Int.emod_lt_of_pos a h0
  have b0 := Int.emod_nonneg b (Int.ne_of_gt h0)
  have b1 := Int.emod_lt_of_pos b h0
  rw [if_neg (Int.ne_of_gt h0)]
  simp only [ea, eb, mod_eq h0]
  rw [Int.tmod_eq_emod_of_nonneg b0, Int.tdiv_eq_ediv_of_nonneg b0]
  have hq0 : 0 ≤ b % m / 1000000 := by omega
  have hq1 : b % m / 1000000 ≤ 100000 := by omega
  have hr0 : 0 ≤ b % m % 1000000 := by omega
  have hr1 : b % m % 1000000 ≤ 1000000 := by omega
  have eq : wrap64 (b % m / 1000000) = b % m / 1000000 := wrap_id (by omega) (by omega)
  rw [eq]
  have p1 : 0 ≤ a % m * (b % m / 1000000) := Int.mul_nonneg a0 hq0
  have p2 : a % m * (b % m / 1000000) ≤ 100000000000 * 100000 := Int.mul_le_mul (by omega) hq1 hq0 (by omega)
  have p3 : 0 ≤ a % m * (b % m % 1000000) := Int.mul_nonneg a0 hr0
  have p4 : a % m * (b % m % 1000000) ≤ 100000000000 * 1000000 := Int.mul_le_mul (by omega) hr1 hr0 (by omega)
  rw [wrap_id (x := a % m * (b % m / 1000000)) (by omega) (by omega), wrap_id (x := a % m * (b % m % 1000000)) (by omega) (by omega)]
  rw [Int.tmod_eq_emod_of_nonneg p1, Int.tmod_eq_emod_of_nonneg p3]
  have c0 := Int.emod_nonneg (a % m * (b % m / 1000000)) (Int.ne_of_gt h0)
  have c1 := Int.emod_lt_of_pos (a % m * (b % m / 1000000)) h0
  have d0 := Int.emod_nonneg (a % m * (b % m % 1000000)) (Int.ne_of_gt h0)
  have d1 := Int.emod_lt_of_pos (a % m * (b % m % 1000000)) h0
  rw [wrap_id (x := a % m * (b % m / 1000000) % m * 1000000) (by omega) (by omega)]
  have e0 : 0 ≤ a % m * (b % m / 1000000) % m * 1000000 := by omega
  rw [Int.tmod_eq_emod_of_nonneg e0]
  have f0 := Int.emod_nonneg (a % m * (b % m / 1000000) % m * 1000000) (Int.ne_of_gt h0)
  have f1 := Int.emod_lt_of_pos (a % m * (b % m / 1000000) % m * 1000000) h0
  rw [wrap_id (by omega) (by omega), Int.tmod_eq_emod_of_nonneg (by omega), mulmod_eq]
theorem l01InvMod_l {n m : Int} (hm : 0 < m) (hm' : m ≤ 1000000000000) : ∀ (k : Nat) (a b : Nat) (x y : Int), b ≤ k → Euc n m a b x y → (a : Int) ≤ 1000000000000 → (b : Int) ≤ 1000000000000 →
    ∃ r, Ev (fun k => spec_l01InvMod.l0 k m a b x y) r ∧ 0 ≤ r ∧ r < m ∧ m ∣ r * n - 1 := by
  intro k
  induction k with
  | zero =>
    intro a b x y hb he ha1 hb1
    obtain rfl : b = 0 := by omega
    have hl := he.last
    have hbd := he.bounds
    refine ⟨x % m, ?_, Int.emod_nonneg _ (Int.ne_of_gt hm), Int.emod_lt_of_pos _ hm, ?_⟩
    · refine Ev.step (fun k => by rw [spec_l01InvMod.l0]) ?_
      have hx := mod_between (n := x) hm
      rw [wrap_id (x := Int.tmod x m + m) (by omega) (by omega), mod_eq hm]
      simp only [Int.natCast_zero, if_true, if_neg (Int.ne_of_gt hm)]
      exact Ev.now _
    · have h1 := dvd_emod_sub x m
      have h2 : x % m * n - 1 = (x % m - x) * n + (x * n - 1) := by rw [Int.sub_mul]; omega
      rw [h2]
      exact Int.dvd_add (Int.dvd_trans h1 (Int.dvd_mul_right _ _)) hl
  | succ k ih =>
    intro a b x y hb he ha1 hb1
    by_cases hz : b = 0
    · exact ih a b x y (by omega) he ha1 hb1
    · have hnx := he.next (by omega)
      obtain ⟨r, hr, h0, h1, h2⟩ := ih b (a % b) y (x - (a / b : Nat) * y) (by have := Nat.mod_lt a (show 0 < b by omega); omega) hnx hb1 (by have := Nat.mod_lt a (show 0 < b by omega); omega)
      refine ⟨r, ?_, h0, h1, h2⟩
      refine Ev.step (fun k => by rw [spec_l01InvMod.l0]) ?_
      suffices hs : wrap64 (Int.tdiv (a : Int) b) = (a / b : Nat) ∧ wrap64 ((a : Int) - wrap64 ((a / b : Nat) * (b : Int))) = (a % b : Nat) ∧ wrap64 (x - wrap64 ((a / b : Nat) * y)) = x - (a / b : Nat) * y by
        simp only [if_neg (show ¬ (b : Int) = 0 by omega), hs.1, hs.2.1, hs.2.2]
        exact hr
      have hbd := he.bounds
      have hbd2 := hnx.bounds
      have hbz : ¬ (b : Int) = 0 := by omega
      have eq : Int.tdiv (a : Int) b = (a / b : Nat) := by rw [Int.tdiv_eq_ediv_of_nonneg (by omega), Int.natCast_ediv]
      have hdm := Nat.div_add_mod a b
      have hle := Nat.div_le_self a b
      have hmod := Nat.mod_le a b
      have hprod : ((a / b : Nat) : Int) * b = a - (a % b : Nat) := by
        have : ((b * (a / b) + a % b : Nat) : Int) = (a : Int) := by rw [hdm]
        rw [Int.natCast_add, Int.natCast_mul, Int.mul_comm (b : Int)] at this
        omega
      rw [eq]
      exact euc_wraps hle hmod hprod (by omega) hm hm' hbd hbd2
theorem l01InvMod_ev {p n : Int} (h : IsP p) {e : Nat} (he : e ≤ 14) (hn : ¬ p ∣ n) :
    ∃ r, Ev (fun k => spec_l01InvMod.f k n (p ^ e)) r ∧ 0 ≤ r ∧ r < p ^ e ∧ p ^ e ∣ r * n - 1 := by
  have h0 := pow_pos' h e
  have h7 := pow_le_seven h (m := e) (n := 14) (by omega)
  have e14 : (7 : Int) ^ 14 = 678223072849 := by decide
  have hb := mod_between (n := n) h0
  have hst := Euc.start (n := n) h0 (coprime_start h hn e)
  have hr0 := Int.emod_nonneg n (Int.ne_of_gt h0)
  have hr1 := Int.emod_lt_of_pos n h0
  obtain ⟨r, hr, a, b, c⟩ := l01InvMod_l h0 (by omega) _ _ _ _ _ (Nat.le_refl _) hst (by omega) (by omega)
  refine ⟨r, ?_, a, b, c⟩
  unfold spec_l01InvMod.f
  simp only [if_neg (Int.ne_of_gt h0)]
  rw [wrap_id (x := Int.tmod n (p ^ e) + p ^ e) (by omega) (by omega), mod_eq h0]
  rw [Int.toNat_of_nonneg hr0, Int.toNat_of_nonneg (by omega)] at hr
  exact hr
/-- The reference's ball of a level with a fraction: x / p^6 is as near to the fraction as the level asks. -/
theorem l01Of_ev {p num den level x : Int} (h : IsP p) (l0 : -6 ≤ level) (l1 : level ≤ 6) (hden : den ≠ 0)
    (n0 : -4000000000000000000 ≤ num ∧ num ≤ 4000000000000000000) (d0 : -4000000000000000000 ≤ den ∧ den ≤ 4000000000000000000)
    (hx : p ^ ((level + 6).toNat + vl p den) ∣ x * den - num * p ^ 6) (hfit : num = 0 ∨ vl p den ≤ vl p num + 6) :
    Ev (fun k => spec_l01Of.f k p num den level) (level, ofMt p level x, (ofMd p level x : Int), true) := by
  unfold spec_l01Of.f
  simp only [l01In_eq, Option.bind_some, show (-6 ≤ level ∧ level ≤ 6) from ⟨l0, l1⟩, and_self, decide_true, if_true]
  by_cases hz : num = 0
  · obtain ⟨h1, h2⟩ := of_low h hden hx (.inl hz) l0
    simp only [if_pos hz, h1, h2]
    exact Ev.now _
  · simp only [if_neg hz]
    have b1 := vl_le_62 h hz (by omega) (by omega)
    have b2 := vl_le_62 h hden (by omega) (by omega)
    rw [bnd (l01Val_ev h hz (by omega) (by omega)), bnd (l01Val_ev h hden (by omega) (by omega))]
    have e1 : wrap64 ((vl p num : Int) - vl p den) = (vl p num : Int) - vl p den := wrap_id (by omega) (by omega)
    have e2 : wrap64 ((vl p den : Int) - vl p num) = (vl p den : Int) - vl p num := wrap_id (by omega) (by omega)
    simp only [e1, e2]
    by_cases hlow : level ≤ (vl p num : Int) - vl p den
    · obtain ⟨h1, h2⟩ := of_low h hden hx (.inr (by omega)) l0
      simp only [if_pos hlow, h1, h2]
      exact Ev.now _
    · have hfit' : vl p den ≤ vl p num + 6 := by rcases hfit with h1 | h1; exact absurd h1 hz; exact h1
      have e3 : mx ((vl p den : Int) - vl p num) 0 = ((vl p den - vl p num : Nat) : Int) := by unfold mx; split <;> omega
      have e4 : mx ((vl p num : Int) - vl p den) 0 = ((vl p num - vl p den : Nat) : Int) := by unfold mx; split <;> omega
      have e5 : wrap64 (level + ((vl p den - vl p num : Nat) : Int)) = level + ((vl p den - vl p num : Nat) : Int) := wrap_id (by omega) (by omega)
      simp only [if_neg hlow, e3, e4, e5, if_neg (show ¬ ((vl p den - vl p num : Nat) : Int) > 6 by omega)]
      obtain ⟨un, hun, hund, _⟩ := vl_split h num hz
      obtain ⟨ud, hud, hudd, _⟩ := vl_split h den hden
      rw [bnd (l01Power_ev h (by omega)), bnd (l01Power_any h hz (by omega) (by omega))]
      simp only [if_neg (pow_ne' h _)]
      rw [bnd (l01Power_any h hden (by omega) (by omega))]
      simp only [if_neg (pow_ne' h _)]
      have q1 : Int.tdiv num (p ^ vl p num) = un := by
        conv => lhs; arg 1; rw [hun]
        exact tdiv_mul_left (pow_ne' h _)
      have q2 : Int.tdiv den (p ^ vl p den) = ud := by
        conv => lhs; arg 1; rw [hud]
        exact tdiv_mul_left (pow_ne' h _)
      have c1 := tdiv_bounds (n := num) (m := p ^ vl p num)
      have c2 := tdiv_bounds (n := den) (m := p ^ vl p den)
      rw [q1] at c1
      rw [q2] at c2
      simp only [q1, q2, wrap_id (x := un) (by omega) (by omega), wrap_id (x := ud) (by omega) (by omega)]
      have h12 := pow_le_seven h (m := (level + ((vl p den - vl p num : Nat) : Int)).toNat) (n := 12) (by omega)
      have e12 : (7 : Int) ^ 12 = 13841287201 := by decide
      have hpp := pow_pos' h (level + ((vl p den - vl p num : Nat) : Int)).toNat
      obtain ⟨inv, hinv, _, _, hid⟩ := l01InvMod_ev h (n := ud) (e := (level + ((vl p den - vl p num : Nat) : Int)).toNat) (by omega) hudd
      rw [bnd hinv]
      simp only [l01MulMod_eq hpp (by omega), Option.bind_some]
      rw [bnd (l01Power_ev h (by omega))]
      have hx' : p ^ ((level + 6).toNat + vl p den) ∣ x * (p ^ vl p den * ud) - p ^ vl p num * un * p ^ 6 := by
        rw [← hun, ← hud]; exact hx
      obtain ⟨h1, h2⟩ := of_high h l0 l1 hund hudd hx' (by omega) hfit' hid
      rw [h1, h2]
      simp only [Int.toNat_natCast]
      exact Ev.now _
theorem l01Of_out {p num den level : Int} (hl : ¬ (-6 ≤ level ∧ level ≤ 6)) : Ev (fun k => spec_l01Of.f k p num den level) (0, 0, 0, false) := by
  unfold spec_l01Of.f
  simp only [l01In_eq, Option.bind_some, hl, decide_false, if_neg Bool.false_ne_true]
  exact Ev.now _
/-- Over a power of p of at most 6. -/
theorem l01Of_pow {p t d level : Int} (h : IsP p) (hd : 0 ≤ d ∧ d ≤ 6) (n0 : -4000000000000000000 ≤ t ∧ t ≤ 4000000000000000000) :
    Ev (fun k => spec_l01Of.f k p t (p ^ d.toNat) level) (if -6 ≤ level ∧ level ≤ 6 then (level, ofMt p level (mk p t d), (ofMd p level (mk p t d) : Int), true) else (0, 0, 0, false)) := by
  by_cases hl : -6 ≤ level ∧ level ≤ 6
  · rw [if_pos hl]
    have h0 := pow_pos' h d.toNat
    have h1 := pow_le_22 h (n := d.toNat) (by omega)
    refine l01Of_ev h hl.1 hl.2 (by omega) n0 (by omega) ?_ (.inr (by rw [vl_pow h]; omega))
    have e : mk p t d * p ^ d.toNat - t * p ^ 6 = 0 := by
      unfold mk
      rw [Int.mul_assoc, ← Int.pow_add]
      have : (6 - d).toNat + d.toNat = 6 := by omega
      rw [this]; omega
    rw [e]; exact Int.dvd_zero _
  · rw [if_neg hl]
    exact l01Of_out hl
theorem mk_bound {p t d : Int} (h : IsP p) (hd : 0 ≤ d) (ht : -13841287201 ≤ t ∧ t ≤ 13841287201) : -1628413597910449 ≤ mk p t d ∧ mk p t d ≤ 1628413597910449 := by
  unfold mk
  have h0 := pow_pos' h (6 - d).toNat
  have h1 := pow_le_seven h (m := (6 - d).toNat) (n := 6) (by omega)
  have e : (7 : Int) ^ 6 = 117649 := by decide
  rw [e] at h1
  rcases Int.le_total 0 t with h2 | h2
  · have a := Int.mul_le_mul ht.2 h1 (Int.le_of_lt h0) (by omega)
    have b := Int.mul_nonneg h2 (Int.le_of_lt h0)
    omega
  · have a := Int.mul_le_mul (show -t ≤ 13841287201 by omega) h1 (Int.le_of_lt h0) (by omega)
    have b := Int.mul_nonneg (show 0 ≤ -t by omega) (Int.le_of_lt h0)
    rw [Int.neg_mul] at a b
    omega
theorem mark_ev {p l t d : Int} (h : IsP p) (hb : Bal p l t d) : Ev (fun k => impl_mark.f k p l t d) (mk p t d) := by
  unfold impl_mark.f
  have hs := hb.small h
  have hd : 0 ≤ d ∧ d ≤ 6 := by unfold Bal at hb; omega
  have hm := mk_bound h hd.1 (t := t) (by omega)
  have e : wrap64 (6 - d) = 6 - d := wrap_id (by omega) (by omega)
  simp only [e]
  rw [bnd (power_ev h (by omega))]
  exact ev_some (wrap_id (x := mk p t d) (by omega) (by omega))
theorem mark_le {p l t d : Int} (h : IsP p) (hb : Bal p l t d) : 0 ≤ mk p t d ∧ mk p t d < 13841287201 := by
  have hm := hb.mark h
  have h1 := pow_le_seven h (m := (l + 6).toNat) (n := 12) (by unfold Bal at hb; omega)
  have e : (7 : Int) ^ 12 = 13841287201 := by decide
  omega
theorem ofMark_ev {p level x : Int} (h : IsP p) (hx : -4000000000000000000 ≤ x ∧ x ≤ 4000000000000000000) :
    Ev (fun k => impl_ofMark.f k p level x) (if -6 ≤ level ∧ level ≤ 6 then (level, ofMt p level x, (ofMd p level x : Int), true) else (0, 0, 0, false)) := by
  unfold impl_ofMark.f
  simp only [isLevel_eq, Option.bind_some]
  by_cases hl : -6 ≤ level ∧ level ≤ 6
  · have e : wrap64 (level + 6) = level + 6 := wrap_id (by omega) (by omega)
    simp only [hl, and_self, decide_true, if_true, e]
    rw [bnd (power_ev h (by omega))]
    have h0 := pow_pos' h (level + 6).toNat
    have h1 := pow_le_seven h (m := (level + 6).toNat) (n := 12) (by omega)
    have e12 : (7 : Int) ^ 12 = 13841287201 := by decide
    simp only [mod_ev h0 (by omega), Option.bind_some]
    have y0 := Int.emod_nonneg x (Int.ne_of_gt h0)
    have y1 := Int.emod_lt_of_pos x h0
    rw [bnd (valuation_any h (by omega) (by omega))]
    have hvx : vx p (x % p ^ (level + 6).toNat) ≤ 1000 ∧ 0 ≤ vx p (x % p ^ (level + 6).toNat) := by
      unfold vx
      split
      · omega
      · rename_i hz
        have := vl_le_62 h hz (by omega) (by omega)
        omega
    have e2 : wrap64 (6 - vx p (x % p ^ (level + 6).toNat)) = 6 - vx p (x % p ^ (level + 6).toNat) := wrap_id (by omega) (by omega)
    have e3 : mx (6 - vx p (x % p ^ (level + 6).toNat)) 0 = (ofMd p level x : Int) := by
      unfold vx ofMd mx
      by_cases hz : x % p ^ (level + 6).toNat = 0
      · simp only [if_pos hz]; omega
      · simp only [if_neg hz]; split <;> omega
    have hd6 := ofMd_le p level x
    have e4 : wrap64 (6 - (ofMd p level x : Int)) = 6 - (ofMd p level x : Int) := wrap_id (by omega) (by omega)
    simp only [e2, e3, e4]
    rw [bnd (power_ev h (by omega))]
    have e5 : (6 - (ofMd p level x : Int)).toNat = 6 - ofMd p level x := by omega
    simp only [if_neg (pow_ne' h _), e5]
    have hq := tdiv_bounds (n := x % p ^ (level + 6).toNat) (m := p ^ (6 - ofMd p level x))
    rw [wrap_id (by omega) (by omega)]
    have e6 : Int.tdiv (x % p ^ (level + 6).toNat) (p ^ (6 - ofMd p level x)) = ofMt p level x := by
      unfold ofMt
      exact Int.tdiv_eq_ediv_of_nonneg y0
    rw [e6]
    exact Ev.now _
  · simp only [hl, decide_false, if_neg Bool.false_ne_true, if_false]
    exact Ev.now _
/-- Two centres over the greater power of p. -/
theorem over_max {p ta da tb db : Int} (h : IsP p) (ha : 0 ≤ da ∧ da ≤ 6) (hb : 0 ≤ db ∧ db ≤ 6) (ta0 : 0 ≤ ta ∧ ta ≤ 13841287201) (tb0 : 0 ≤ tb ∧ tb ≤ 13841287201) :
    wrap64 (mx da db - da) = mx da db - da ∧ wrap64 (mx da db - db) = mx da db - db ∧ 0 ≤ mx da db ∧ mx da db ≤ 6 ∧ da ≤ mx da db ∧ db ≤ mx da db ∧
    wrap64 (ta * p ^ (mx da db - da).toNat) = ta * p ^ (mx da db - da).toNat ∧ wrap64 (tb * p ^ (mx da db - db).toNat) = tb * p ^ (mx da db - db).toNat ∧
    (0 ≤ ta * p ^ (mx da db - da).toNat ∧ ta * p ^ (mx da db - da).toNat ≤ 1628413597910449) ∧ (0 ≤ tb * p ^ (mx da db - db).toNat ∧ tb * p ^ (mx da db - db).toNat ≤ 1628413597910449) ∧
    mk p (ta * p ^ (mx da db - da).toNat) (mx da db) = mk p ta da ∧ mk p (tb * p ^ (mx da db - db).toNat) (mx da db) = mk p tb db := by
  have hm : 0 ≤ mx da db ∧ mx da db ≤ 6 ∧ da ≤ mx da db ∧ db ≤ mx da db := by unfold mx; split <;> omega
  have key : ∀ {t : Int} {e : Int}, 0 ≤ t ∧ t ≤ 13841287201 → e ≤ 6 → 0 ≤ t * p ^ e.toNat ∧ t * p ^ e.toNat ≤ 1628413597910449 := by
    intro t e ht he
    have h0 := pow_pos' h e.toNat
    have h1 := pow_le_seven h (m := e.toNat) (n := 6) (by omega)
    have e6 : (7 : Int) ^ 6 = 117649 := by decide
    rw [e6] at h1
    have a := Int.mul_le_mul ht.2 h1 (Int.le_of_lt h0) (by omega)
    exact ⟨Int.mul_nonneg ht.1 (Int.le_of_lt h0), by omega⟩
  have ka := key ta0 (e := mx da db - da) (by omega)
  have kb := key tb0 (e := mx da db - db) (by omega)
  have kk : ∀ {t e : Int}, 0 ≤ e → e ≤ mx da db → mk p (t * p ^ (mx da db - e).toNat) (mx da db) = mk p t e := by
    intro t e he0 he
    unfold mk
    rw [Int.mul_assoc, ← Int.pow_add]
    congr 2
    omega
  exact ⟨wrap_id (by omega) (by omega), wrap_id (by omega) (by omega), hm.1, hm.2.1, hm.2.2.1, hm.2.2.2, wrap_id (by omega) (by omega), wrap_id (by omega) (by omega), ka, kb, kk ha.1 hm.2.2.1, kk hb.1 hm.2.2.2⟩
theorem mk_sub (p s t d : Int) : mk p (s - t) d = mk p s d - mk p t d := by unfold mk; rw [Int.sub_mul]
theorem joinLevel_ev {p l t d l' t' d' : Int} (h : IsP p) (hb : Bal p l t d) (hb' : Bal p l' t' d') : Ev (fun k => impl_joinLevel.f k p l t d l' t' d') (joinL p l t d l' t' d') := by
  unfold impl_joinLevel.f joinL
  have hm := mark_le h hb
  have hm' := mark_le h hb'
  have hr : -6 ≤ l ∧ l ≤ 6 ∧ -6 ≤ l' ∧ l' ≤ 6 := by unfold Bal at hb hb'; omega
  rw [bnd (mark_ev h hb), bnd (mark_ev h hb'), wrap_id (by omega) (by omega), bnd (valuation_any h (by omega) (by omega))]
  unfold vx
  by_cases e : mk p t d = mk p t' d'
  · rw [if_pos e, if_pos (by omega), wrap_id (by omega) (by omega)]
    refine ev_some ?_
    unfold mn; repeat' split
    all_goals omega
  · have hz : ¬ mk p t d - mk p t' d' = 0 := by omega
    have := vl_le_62 h hz (by omega) (by omega)
    rw [if_neg e, if_neg hz, wrap_id (by omega) (by omega)]
    exact Ev.now _
theorem l02Valuation_ev {p l t d l' t' d' : Int} (h : IsP p) (hb : Bal p l t d) (hb' : Bal p l' t' d') : Ev (fun k => spec_l02Valuation.f k p l t d l' t' d') (if mk p t d = mk p t' d' then (0, false) else ((vl p (mk p t d - mk p t' d') : Int) - 6, true)) := by
  unfold spec_l02Valuation.f
  have hs := hb.small h
  have hs' := hb'.small h
  have hdd : (0 ≤ d ∧ d ≤ 6) ∧ 0 ≤ d' ∧ d' ≤ 6 := by unfold Bal at hb hb'; omega
  obtain ⟨e1, e2, m0, m1, m2, m3, e3, e4, b1, b2, k1, k2⟩ := over_max h hdd.1 hdd.2 hs hs'
  simp only [e1, e2]
  rw [bnd (l01Power_ev h (by omega)), bnd (l01Power_ev h (by omega)), e3, e4, wrap_id (by omega) (by omega)]
  have hk : (t * p ^ (mx d d' - d).toNat - t' * p ^ (mx d d' - d').toNat) * p ^ (6 - mx d d').toNat = mk p t d - mk p t' d' := by
    rw [← k1, ← k2, ← mk_sub]; rfl
  generalize hw : t * p ^ (mx d d' - d).toNat - t' * p ^ (mx d d' - d').toNat = w at *
  have hp6 := pow_pos' h (6 - mx d d').toNat
  by_cases hz : w = 0
  · have e : mk p t d = mk p t' d' := by rw [hz, Int.zero_mul] at hk; omega
    rw [if_pos e]
    simp only [if_pos hz]
    exact Ev.now _
  · have hne := Int.mul_ne_zero hz (Int.ne_of_gt hp6)
    have e : ¬ mk p t d = mk p t' d' := by rw [hk] at hne; omega
    rw [if_neg e, ← hk, Int.mul_comm w, vl_pow_mul h hz]
    have hv := vl_le_62 h hz (by omega) (by omega)
    simp only [if_neg hz]
    rw [bnd (l01Val_ev h hz (by omega) (by omega)), wrap_id (by omega) (by omega)]
    refine ev_some ?_
    have : ((vl p w : Int) - mx d d') = ((((6 - mx d d').toNat + vl p w : Nat) : Int) - 6) := by omega
    rw [this]
theorem l02Join_ev {p l t d l' t' d' : Int} (h : IsP p) (hb : Bal p l t d) (hb' : Bal p l' t' d') : Ev (fun k => spec_l02Join.f k p l t d l' t' d') (joinL p l t d l' t' d') := by
  unfold spec_l02Join.f joinL
  rw [bnd (l02Valuation_ev h hb hb')]
  by_cases e : mk p t d = mk p t' d'
  · simp only [if_pos e, if_neg Bool.false_ne_true]; exact Ev.now _
  · simp only [if_neg e, if_true]; exact Ev.now _
theorem above_ev {p l t d n : Int} (h : IsP p) (hb : Bal p l t d) (hn : -6 ≤ n ∧ n ≤ 6) : Ev (fun k => impl_above.f k p l t d n) (n, ofMt p n (mk p t d), (ofMd p n (mk p t d) : Int)) := by
  unfold impl_above.f
  have hm := mark_le h hb
  rw [bnd (mark_ev h hb), bnd (ofMark_ev h (by omega))]
  simp only [hn, and_self, if_true]
  exact Ev.now _
theorem l02Up_ev {p l t d n : Int} (h : IsP p) (hb : Bal p l t d) (hn : -6 ≤ n ∧ n ≤ 6) : Ev (fun k => spec_l02Up.f k p l t d n) (n, ofMt p n (mk p t d), (ofMd p n (mk p t d) : Int), true) := by
  unfold spec_l02Up.f
  have hs := hb.small h
  have hd : 0 ≤ d ∧ d ≤ 6 := by unfold Bal at hb; omega
  rw [bnd (l01Power_ev h (by omega)), bnd (l01Of_pow h hd (by omega))]
  simp only [hn, and_self, if_true]
  exact Ev.now _
theorem joinL_range {p l t d l' t' d' : Int} (hb : Bal p l t d) (hb' : Bal p l' t' d') : -6 ≤ joinL p l t d l' t' d' ∧ joinL p l t d l' t' d' ≤ 6 := by
  have hr : -6 ≤ l ∧ l ≤ 6 ∧ -6 ≤ l' ∧ l' ≤ 6 := by unfold Bal at hb hb'; omega
  have h1 := joinL_le (p := p) (la := l) (ta := t) (da := d) (lb := l') (tb := t') (db := d')
  have h2 := joinL_ge (p := p) (ta := t) (da := d) (tb := t') (db := d') hr.1 hr.2.2.1
  omega
theorem eqBalls_l (l : List S27) (hl : l.length ≤ 1000000) : ∀ d i : Nat, i + d = l.length → Ev (fun k => laws_eqBallS.l0 k l l i) true := by
  intro d
  induction d with
  | zero =>
    intro i hi
    refine Ev.step (fun k => by rw [laws_eqBallS.l0]) ?_
    simp only [if_neg (show ¬ (i : Int) < (l.length : Int) by omega)]
    exact Ev.now _
  | succ d ih =>
    intro i hi
    refine Ev.step (fun k => by rw [laws_eqBallS.l0]) ?_
    have e : wrap64 ((i : Int) + 1) = ((i + 1 : Nat) : Int) := by rw [wrap_id (by omega) (by omega)]; omega
    simp only [if_pos (show (i : Int) < (l.length : Int) by omega), if_pos (show (0 : Int) ≤ i by omega), laws_eqBall.f, if_true, Option.bind_some, e]
    exact ih (i + 1) (by omega)
theorem eqBalls_ev (l : List S27) (hl : l.length ≤ 1000000) : Ev (fun k => laws_eqBallS.f k l l) true := by
  unfold laws_eqBallS.f
  simp only [if_true]
  exact eqBalls_l l hl l.length 0 (by omega)
def upsB (a : Int) : Nat → List S27
  | 0 => []
  | n + 1 => ⟨a, a + 1, a + 2⟩ :: upsB (a + 3) n
theorem upsB_length (a : Int) (n : Nat) : (upsB a n).length = n := by
  induction n generalizing a with
  | zero => rfl
  | succ n ih => rw [show upsB a (n + 1) = ⟨a, a + 1, a + 2⟩ :: upsB (a + 3) n from rfl, List.length_cons, ih]
theorem set_atB (pre : List S27) (b c : S27) (ys : List S27) : (pre ++ b :: ys).set (pre.length : Int).toNat c = pre ++ c :: ys := by
  simp
theorem markBalls_l : ∀ (ys pre : List S27) (a : Int), (pre ++ ys).length ≤ 1000000 → 0 ≤ a → a + 3 * ys.length ≤ 1000000000 → Ev (fun k => laws_markBallS.l0 k (pre ++ ys) a pre.length) (a + 3 * ys.length, pre ++ upsB a ys.length) := by
  intro ys
  induction ys with
  | nil =>
    intro pre a hl h0 h1
    refine Ev.step (fun k => by rw [laws_markBallS.l0]) ?_
    simp only [List.append_nil, if_neg (Int.lt_irrefl _)]
    exact ev_some (by simp [upsB])
  | cons b ys ih =>
    intro pre a hl h0 h1
    refine Ev.step (fun k => by rw [laws_markBallS.l0]) ?_
    have hl' : (pre ++ b :: ys).length = pre.length + (ys.length + 1) := by simp
    have hlt : (pre.length : Int) < ((pre ++ b :: ys).length : Int) := by omega
    rw [List.length_cons] at h1
    have e1 : wrap64 (a + 1) = a + 1 := wrap_id (by omega) (by omega)
    have e3 : wrap64 (a + 1 + 1) = a + 2 := by rw [wrap_id (by omega) (by omega)]; omega
    have e4 : wrap64 (a + 2 + 1) = a + 3 := by rw [wrap_id (by omega) (by omega)]; omega
    have e2 : wrap64 ((pre.length : Int) + 1) = ((pre ++ [(⟨a, a + 1, a + 2⟩ : S27)]).length : Int) := by rw [wrap_id (by omega) (by omega)]; simp
    simp only [if_pos hlt, if_pos (show (0 : Int) ≤ (pre.length : Int) by omega), set_atB, rd_ball_at, Option.bind_some, e1, e3, e4, e2]
    have := ih (pre ++ [(⟨a, a + 1, a + 2⟩ : S27)]) (a + 3) (by simpa using hl) (by omega) (by omega)
    simp only [List.append_assoc, List.singleton_append] at this
    refine ev_eq this ?_
    rw [List.length_cons, show upsB a (ys.length + 1) = ⟨a, a + 1, a + 2⟩ :: upsB (a + 3) ys.length from rfl]
    refine Prod.ext ?_ rfl
    show a + 3 + 3 * (ys.length : Int) = a + 3 * ((ys.length + 1 : Nat) : Int)
    omega
theorem markBalls_ev {ys : List S27} {a : Int} (hl : ys.length ≤ 1000000) (h0 : 0 ≤ a) (h1 : a ≤ 1000000) : Ev (fun k => laws_markBallS.f k ys a) (a + 3 * ys.length, upsB a ys.length) := by
  unfold laws_markBallS.f
  exact markBalls_l ys [] a (by simpa using hl) h0 (by omega)
theorem heldBalls_l : ∀ (n : Nat) (pre : List S27) (a : Int), pre.length + n ≤ 1000000 → 0 ≤ a → a + 3 * n ≤ 1000000000 → Ev (fun k => laws_heldBallS.l0 k (pre ++ upsB a n) a pre.length) (a + 3 * n) := by
  intro n
  induction n with
  | zero =>
    intro pre a hl h0 h1
    refine Ev.step (fun k => by rw [laws_heldBallS.l0]) ?_
    simp only [upsB, List.append_nil, if_neg (Int.lt_irrefl _)]
    exact ev_some (by simp)
  | succ n ih =>
    intro pre a hl h0 h1
    refine Ev.step (fun k => by rw [laws_heldBallS.l0]) ?_
    have hl' : (pre ++ upsB a (n + 1)).length = pre.length + (n + 1) := by rw [List.length_append, upsB_length]
    have hlt : (pre.length : Int) < ((pre ++ upsB a (n + 1)).length : Int) := by omega
    have e1 : wrap64 (a + 1) = a + 1 := wrap_id (by omega) (by omega)
    have e3 : wrap64 (a + 1 + 1) = a + 2 := by rw [wrap_id (by omega) (by omega)]; omega
    have e4 : wrap64 (a + 2 + 1) = a + 3 := by rw [wrap_id (by omega) (by omega)]; omega
    have e2 : wrap64 ((pre.length : Int) + 1) = ((pre ++ [(⟨a, a + 1, a + 2⟩ : S27)]).length : Int) := by rw [wrap_id (by omega) (by omega)]; simp
    have hrd : rd_T27 (pre ++ upsB a (n + 1)) (pre.length : Int) = ⟨a, a + 1, a + 2⟩ := rd_ball_at pre _ _
    simp only [if_pos hlt, if_pos (show (0 : Int) ≤ (pre.length : Int) by omega), hrd, if_true, e1, e3, e4, e2]
    have := ih (pre ++ [(⟨a, a + 1, a + 2⟩ : S27)]) (a + 3) (by simp; omega) (by omega) (by omega)
    simp only [List.append_assoc, List.singleton_append] at this
    refine ev_eq this ?_
    omega
theorem heldBalls_ev {n : Nat} {a : Int} (hl : n ≤ 1000000) (h0 : 0 ≤ a) (h1 : a ≤ 1000000) : Ev (fun k => laws_heldBallS.f k (upsB a n) a) (a + 3 * n) := by
  unfold laws_heldBallS.f
  exact heldBalls_l n [] a (by simpa using hl) h0 (by omega)
def dnB (p x : Int) (hi : Int) : Nat → List S27
  | 0 => []
  | n + 1 => ⟨hi, ofMt p hi x, (ofMd p hi x : Int)⟩ :: dnB p x (hi - 1) n
def upB (p x : Int) (lo : Int) : Nat → List S27
  | 0 => []
  | n + 1 => ⟨lo, ofMt p lo x, (ofMd p lo x : Int)⟩ :: upB p x (lo + 1) n
theorem dnB_length (p x : Int) (n : Nat) : ∀ hi, (dnB p x hi n).length = n := by
  induction n with
  | zero => intro hi; rfl
  | succ n ih => intro hi; rw [show dnB p x hi (n + 1) = _ :: dnB p x (hi - 1) n from rfl, List.length_cons, ih]
theorem upB_length (p x : Int) (n : Nat) : ∀ lo, (upB p x lo n).length = n := by
  induction n with
  | zero => intro lo; rfl
  | succ n ih => intro lo; rw [show upB p x lo (n + 1) = _ :: upB p x (lo + 1) n from rfl, List.length_cons, ih]
theorem geo_up {p l t d : Int} (h : IsP p) (hb : Bal p l t d) : ∀ (n : Nat) (lo : Int) (acc : List S27), -6 ≤ lo → lo + n = l + 1 → acc.length + n ≤ 1000 → Ev (fun k => impl_geodesic.l1 k p acc lo l t d) (acc ++ upB p (mk p t d) lo n) := by
  have hr : -6 ≤ l ∧ l ≤ 6 := by unfold Bal at hb; omega
  intro n
  induction n with
  | zero =>
    intro lo acc h0 h1 ha
    refine Ev.step (fun k => by rw [impl_geodesic.l1]) ?_
    simp only [if_neg (show ¬ lo ≤ l by omega)]
    exact ev_some (by rw [show upB p (mk p t d) lo 0 = [] from rfl, List.append_nil])
  | succ n ih =>
    intro lo acc h0 h1 ha
    refine Ev.step (fun k => by rw [impl_geodesic.l1]) ?_
    have hlt : acc.length < 5864062014805 := Nat.lt_of_le_of_lt (Nat.le_trans (Nat.le_add_right _ _) ha) (by omega)
    have e : wrap64 (lo + 1) = lo + 1 := wrap_id (by omega) (by omega)
    simp only [if_pos (show lo ≤ l by omega)]
    rw [bnd (above_ev h hb (by omega))]
    simp only [if_pos hlt, e]
    have hx := ih (lo + 1) (acc ++ [⟨lo, ofMt p lo (mk p t d), (ofMd p lo (mk p t d) : Int)⟩]) (by omega) (by omega) (by rw [List.length_append, List.length_singleton]; omega)
    rw [List.append_assoc] at hx
    exact hx
theorem way_up {p l t d : Int} (h : IsP p) (hb : Bal p l t d) : ∀ (n : Nat) (lo : Int) (acc : List S27), -6 ≤ lo → lo + n = l + 1 → acc.length + n ≤ 1000 → Ev (fun k => spec_l02Way.l1 k p acc lo l t d) (acc ++ upB p (mk p t d) lo n, true) := by
  have hr : -6 ≤ l ∧ l ≤ 6 := by unfold Bal at hb; omega
  intro n
  induction n with
  | zero =>
    intro lo acc h0 h1 ha
    refine Ev.step (fun k => by rw [spec_l02Way.l1]) ?_
    simp only [if_neg (show ¬ lo ≤ l by omega)]
    exact ev_some (by rw [show upB p (mk p t d) lo 0 = [] from rfl, List.append_nil])
  | succ n ih =>
    intro lo acc h0 h1 ha
    refine Ev.step (fun k => by rw [spec_l02Way.l1]) ?_
    have hlt : acc.length < 5864062014805 := Nat.lt_of_le_of_lt (Nat.le_trans (Nat.le_add_right _ _) ha) (by omega)
    have e : wrap64 (lo + 1) = lo + 1 := wrap_id (by omega) (by omega)
    simp only [if_pos (show lo ≤ l by omega)]
    rw [bnd (l02Up_ev h hb (by omega))]
    simp only [if_true, if_pos hlt, e]
    have hx := ih (lo + 1) (acc ++ [⟨lo, ofMt p lo (mk p t d), (ofMd p lo (mk p t d) : Int)⟩]) (by omega) (by omega) (by rw [List.length_append, List.length_singleton]; omega)
    rw [List.append_assoc] at hx
    exact hx
theorem geo_dn {p l t d l' t' d' j : Int} (h : IsP p) (hb : Bal p l t d) (hb' : Bal p l' t' d') (hj : -6 ≤ j ∧ j ≤ l ∧ j ≤ l') : ∀ (n : Nat) (hi : Int) (acc : List S27), hi ≤ 6 → hi + 1 = j + n → acc.length + n ≤ 500 → Ev (fun k => impl_geodesic.l0 k p j acc hi l t d l' t' d') (acc ++ (dnB p (mk p t d) hi n ++ upB p (mk p t' d') (j + 1) (l' - j).toNat)) := by
  have hr : -6 ≤ l ∧ l ≤ 6 := by unfold Bal at hb; omega
  have hr' : -6 ≤ l' ∧ l' ≤ 6 := by unfold Bal at hb'; omega
  intro n
  induction n with
  | zero =>
    intro hi acc h0 h1 ha
    refine Ev.step (fun k => by rw [impl_geodesic.l0]) ?_
    have e : wrap64 (j + 1) = j + 1 := wrap_id (by omega) (by omega)
    simp only [if_neg (show ¬ hi ≥ j by omega), e]
    rw [show dnB p (mk p t d) hi 0 = [] from rfl, List.nil_append]
    exact geo_up h hb' (l' - j).toNat (j + 1) acc (by omega) (by omega) (by omega)
  | succ n ih =>
    intro hi acc h0 h1 ha
    refine Ev.step (fun k => by rw [impl_geodesic.l0]) ?_
    have hlt : acc.length < 5864062014805 := Nat.lt_of_le_of_lt (Nat.le_trans (Nat.le_add_right _ _) ha) (by omega)
    have e : wrap64 (hi - 1) = hi - 1 := wrap_id (by omega) (by omega)
    simp only [if_pos (show hi ≥ j by omega)]
    rw [bnd (above_ev h hb (by omega))]
    simp only [if_pos hlt, e]
    have hx := ih (hi - 1) (acc ++ [⟨hi, ofMt p hi (mk p t d), (ofMd p hi (mk p t d) : Int)⟩]) (by omega) (by omega) (by rw [List.length_append, List.length_singleton]; omega)
    rw [List.append_assoc] at hx
    exact hx
theorem way_dn {p l t d l' t' d' j : Int} (h : IsP p) (hb : Bal p l t d) (hb' : Bal p l' t' d') (hj : -6 ≤ j ∧ j ≤ l ∧ j ≤ l') : ∀ (n : Nat) (hi : Int) (acc : List S27), hi ≤ 6 → hi + 1 = j + n → acc.length + n ≤ 500 → Ev (fun k => spec_l02Way.l0 k p j acc hi l t d l' t' d') (acc ++ (dnB p (mk p t d) hi n ++ upB p (mk p t' d') (j + 1) (l' - j).toNat), true) := by
  have hr : -6 ≤ l ∧ l ≤ 6 := by unfold Bal at hb; omega
  have hr' : -6 ≤ l' ∧ l' ≤ 6 := by unfold Bal at hb'; omega
  intro n
  induction n with
  | zero =>
    intro hi acc h0 h1 ha
    refine Ev.step (fun k => by rw [spec_l02Way.l0]) ?_
    have e : wrap64 (j + 1) = j + 1 := wrap_id (by omega) (by omega)
    simp only [if_neg (show ¬ hi ≥ j by omega), e]
    rw [show dnB p (mk p t d) hi 0 = [] from rfl, List.nil_append]
    exact way_up h hb' (l' - j).toNat (j + 1) acc (by omega) (by omega) (by omega)
  | succ n ih =>
    intro hi acc h0 h1 ha
    refine Ev.step (fun k => by rw [spec_l02Way.l0]) ?_
    have hlt : acc.length < 5864062014805 := Nat.lt_of_le_of_lt (Nat.le_trans (Nat.le_add_right _ _) ha) (by omega)
    have e : wrap64 (hi - 1) = hi - 1 := wrap_id (by omega) (by omega)
    simp only [if_pos (show hi ≥ j by omega)]
    rw [bnd (l02Up_ev h hb (by omega))]
    simp only [if_true, if_pos hlt, e]
    have hx := ih (hi - 1) (acc ++ [⟨hi, ofMt p hi (mk p t d), (ofMd p hi (mk p t d) : Int)⟩]) (by omega) (by omega) (by rw [List.length_append, List.length_singleton]; omega)
    rw [List.append_assoc] at hx
    exact hx
def GeoL (p l t d l' t' d' : Int) : List S27 := dnB p (mk p t d) l (l + 1 - joinL p l t d l' t' d').toNat ++ upB p (mk p t' d') (joinL p l t d l' t' d' + 1) (l' - joinL p l t d l' t' d').toNat
theorem join_least {p l t d l' t' d' : Int} (hb : Bal p l t d) (hb' : Bal p l' t' d') : -6 ≤ joinL p l t d l' t' d' ∧ joinL p l t d l' t' d' ≤ l ∧ joinL p l t d l' t' d' ≤ l' := by
  have h1 := joinL_le (p := p) (la := l) (ta := t) (da := d) (lb := l') (tb := t') (db := d')
  have h2 := joinL_range hb hb'
  omega
theorem geodesic_ev {p l t d l' t' d' : Int} (h : IsP p) (hb : Bal p l t d) (hb' : Bal p l' t' d') : Ev (fun k => impl_geodesic.f k p l t d l' t' d') (GeoL p l t d l' t' d') := by
  unfold impl_geodesic.f GeoL
  rw [bnd (joinLevel_ev h hb hb')]
  have hj := join_least hb hb'
  have hr : l ≤ 6 := by unfold Bal at hb; omega
  have := geo_dn h hb hb' hj (l + 1 - joinL p l t d l' t' d').toNat l [] hr (by omega) (by rw [List.length_nil]; omega)
  rw [List.nil_append] at this
  exact this
theorem l02Way_ev {p l t d l' t' d' : Int} (h : IsP p) (hb : Bal p l t d) (hb' : Bal p l' t' d') : Ev (fun k => spec_l02Way.f k p l t d l' t' d') (GeoL p l t d l' t' d', true) := by
  unfold spec_l02Way.f GeoL
  rw [bnd (l02Join_ev h hb hb')]
  have hj := join_least hb hb'
  have hr : l ≤ 6 := by unfold Bal at hb; omega
  have := way_dn h hb hb' hj (l + 1 - joinL p l t d l' t' d').toNat l [] hr (by omega) (by rw [List.length_nil]; omega)
  rw [List.nil_append] at this
  exact this
def GeoR (p l t d l' t' d' : Int) : List S27 × Int := if IsP p ∧ Bal p l t d ∧ Bal p l' t' d' then (GeoL p l t d l' t' d', 0) else ([], 1)
theorem GeoR_length (p l t d l' t' d' : Int) : (GeoR p l t d l' t' d').1.length ≤ 1000 := by
  unfold GeoR
  split
  · rename_i h
    have hj := join_least h.2.1 h.2.2
    have hr : l ≤ 6 ∧ l' ≤ 6 := by have a := h.2.1; have b := h.2.2; unfold Bal at a b; omega
    show (GeoL p l t d l' t' d').length ≤ 1000
    unfold GeoL
    rw [List.length_append, dnB_length, upB_length]
    omega
  · simp only [List.length_nil]; omega
theorem implGeodesicOf_ev {p l t d l' t' d' : Int} (hl : -9223372036854775808 ≤ l ∧ l ≤ 9223372036854775807) (hd : -9223372036854775808 ≤ d ∧ d ≤ 9223372036854775807)
    (hl' : -9223372036854775808 ≤ l' ∧ l' ≤ 9223372036854775807) (hd' : -9223372036854775808 ≤ d' ∧ d' ≤ 9223372036854775807) : Ev (fun k => impl_GeodesicOf.f k p l t d l' t' d') (GeoR p l t d l' t' d') := by
  unfold impl_GeodesicOf.f GeoR
  rw [bnd (areBalls2 hl hd hl' hd')]
  by_cases h : IsP p ∧ Bal p l t d ∧ Bal p l' t' d'
  · simp only [h, and_self, decide_true, if_true]
    rw [bnd (geodesic_ev h.1 h.2.1 h.2.2)]
    exact Ev.now _
  · simp only [h, decide_false, if_neg Bool.false_ne_true, if_false]; exact Ev.now _
theorem specGeodesicOf_ev {p l t d l' t' d' : Int} (hl : -9223372036854775808 ≤ l ∧ l ≤ 9223372036854775807) (hd : -9223372036854775808 ≤ d ∧ d ≤ 9223372036854775807)
    (hl' : -9223372036854775808 ≤ l' ∧ l' ≤ 9223372036854775807) (hd' : -9223372036854775808 ≤ d' ∧ d' ≤ 9223372036854775807) : Ev (fun k => spec_GeodesicOf.f k p l t d l' t' d') (GeoR p l t d l' t' d') := by
  unfold spec_GeodesicOf.f GeoR
  rw [bnd (l01Code2 hl hd hl' hd')]
  by_cases h : IsP p ∧ Bal p l t d ∧ Bal p l' t' d'
  · simp only [h, and_self, if_true]
    rw [bnd (l02Way_ev h.1 h.2.1 h.2.2)]
    exact Ev.now _
  · simp only [h, if_false, if_neg (show ¬ (1 : Int) = 0 by omega)]; exact Ev.now _
def FnExactGeodesicOfPure : Prop := ∀ (a0 : Int) (a1_0 : Int) (a1_1 : Int) (a1_2 : Int) (a2_0 : Int) (a2_1 : Int) (a2_2 : Int), (Lit.int .i64 a0).wf = true → (Lit.int .i64 a1_0).wf = true → (Lit.int .i64 a1_1).wf = true → (Lit.int .i64 a1_2).wf = true → (Lit.int .i64 a2_0).wf = true → (Lit.int .i64 a2_1).wf = true → (Lit.int .i64 a2_2).wf = true → ∃ k, laws_FnExactGeodesicOf.f k a0 a1_0 a1_1 a1_2 a2_0 a2_1 a2_2 = some true
theorem FnExactGeodesicOf : FnExactGeodesicOfPure := by
  intro a0 a1 a2 a3 a4 a5 a6 w0 w1 w2 w3 w4 w5 w6
  refine Ev.rounds (g := fun k => laws_FnExactGeodesicOf.f k a0 a1 a2 a3 a4 a5 a6) ?_
  unfold laws_FnExactGeodesicOf.f
  simp only [laws_toBall.f, Option.bind_some]
  have hd := implGeodesicOf_ev (p := a0) (t := a2) (t' := a5) (wf_range w1) (wf_range w3) (wf_range w4) (wf_range w6)
  have hl := GeoR_length a0 a1 a2 a3 a4 a5 a6
  rw [bnd (specGeodesicOf_ev (wf_range w1) (wf_range w3) (wf_range w4) (wf_range w6)), bnd hd, bnd (eqBalls_ev _ (by omega))]
  simp only [if_true, bne_self_eq_false]
  refine Ev.step (fun k => by rw [laws_FnExactGeodesicOf.j0]) ?_
  simp only [if_neg Bool.false_ne_true, laws_toBall.f, Option.bind_some]
  rw [bnd (markBalls_ev (by omega) (by omega) (by omega))]
  rw [bnd (heldBalls_ev (by omega) (by omega) (by omega))]
  simp only [if_neg (show ¬ ((1 : Int) + 3 * ((GeoR a0 a1 a2 a3 a4 a5 a6).1.length : Int) < 0) by omega), if_true]
  rw [bnd hd, bnd (eqBalls_ev _ (by omega))]
  simp only [if_true, bne_self_eq_false]
  refine Ev.step (fun k => by rw [laws_FnExactGeodesicOf.j1]) ?_
  simp only [if_neg Bool.false_ne_true]
  rw [bnd (heldBalls_ev (by omega) (by omega) (by omega))]
  simp only [if_neg (show ¬ ((1 : Int) + 3 * ((GeoR a0 a1 a2 a3 a4 a5 a6).1.length : Int) < 0) by omega), if_true]
  exact Ev.now _

end Go.Proofs.Ytpmepopagapeiaa.Pure

/- HeightOver and the reference's HeightOver answer the same for every prime and every two balls and every end. No condition. -/
import Derived.Test.YtieajioobfkifaaPFnExactHeightOverx5
import Derived.Test.YtieajioobfkifaaMath
namespace Go.Proofs.Ytieajioobfkifaa.Pure
open Go.RowKit Go.Proofs.Ytieajioobfkifaa.PFnExactHeightOver Go.Proofs.YtieajioobfkifaaW.PrintWords Go.Proofs.YtieajioobfkifaaW.PrintLast Go.Proofs.YtieajioobfkifaaW.PrintMore Go.Proofs.Ytieajioobfkifaa.Math
set_option linter.unusedVariables false
set_option linter.unusedSimpArgs false
theorem isPrime_eq (p : Int) : impl_isPrime.f p = some (decide (IsP p)) := by
  unfold impl_isPrime.f IsP
  by_cases h2 : p = 2
  · subst h2; rfl
  by_cases h3 : p = 3
  · subst h3; rfl
  by_cases h5 : p = 5
  · subst h5; rfl
  by_cases h7 : p = 7
  · subst h7; rfl
  simp [h2, h3, h5, h7]
theorem l01Prime_eq (p : Int) : spec_l01Prime.f p = some (decide (IsP p)) := by
  unfold spec_l01Prime.f IsP
  by_cases h2 : p = 2
  · subst h2; rfl
  by_cases h3 : p = 3
  · subst h3; rfl
  by_cases h5 : p = 5
  · subst h5; rfl
  by_cases h7 : p = 7
  · subst h7; rfl
  simp [h2, h3, h5, h7]
theorem l01In_eq (n a b : Int) : spec_l01In.f n a b = some (decide (a ≤ n ∧ n ≤ b)) := by
  unfold spec_l01In.f
  by_cases h : n ≥ a
  · rw [if_pos h]; simp [h]
  · rw [if_neg h]; simp; omega
theorem isLevel_eq (n : Int) : impl_isLevel.f n = some (decide (-6 ≤ n ∧ n ≤ 6)) := by
  unfold impl_isLevel.f
  by_cases h : n ≥ (-6)
  · rw [if_pos h]; simp [h]
  · rw [if_neg h]; simp; omega
theorem power_l {p : Int} (h : IsP p) (n : Nat) (hn : p ^ n ≤ 9223372036854775807) (hn' : n ≤ 1000) : ∀ d i, i + d = n → Ev (fun k => impl_power.l0 k p (p ^ i) n i) (p ^ n) := by
  intro d
  induction d with
  | zero =>
    intro i hi
    obtain rfl : i = n := by omega
    refine Ev.step (fun k => by rw [impl_power.l0]) ?_
    simp only [if_neg (Int.lt_irrefl _)]
    exact Ev.now _
  | succ d ih =>
    intro i hi
    refine Ev.step (fun k => by rw [impl_power.l0]) ?_
    have h1 : (i : Int) < n := by omega
    have h2 := pow_pos' h (i + 1)
    have h3 := pow_mono h (m := i + 1) (n := n) (by omega)
    have e1 : wrap64 (p ^ i * p) = p ^ (i + 1) := by rw [← show p ^ (i + 1) = p ^ i * p from Int.pow_succ p i]; exact wrap_id (by omega) (by omega)
    have e2 : wrap64 ((i : Int) + 1) = ((i + 1 : Nat) : Int) := by rw [wrap_id (by omega) (by omega)]; omega
    simp only [if_pos h1, e1, e2]
    exact ih (i + 1) (by omega)
theorem power_big {p : Int} (h : IsP p) {n : Nat} (hn : p ^ n ≤ 9223372036854775807) (hn' : n ≤ 1000) : Ev (fun k => impl_power.f k p n) (p ^ n) := by
  unfold impl_power.f
  have := power_l h n hn hn' n 0 (by omega)
  rw [Int.pow_zero] at this
  exact this
theorem power_ev {p : Int} (h : IsP p) {n : Int} (hn : n ≤ 22) : Ev (fun k => impl_power.f k p n) (p ^ n.toNat) := by
  by_cases h0 : 0 ≤ n
  · have := power_big h (n := n.toNat) (by have := pow_le_22 h (n := n.toNat) (by omega); omega) (by omega)
    rw [Int.toNat_of_nonneg h0] at this
    exact this
  · unfold impl_power.f
    refine Ev.step (fun k => by rw [impl_power.l0]) ?_
    have e : n.toNat = 0 := by omega
    simp only [if_neg (show ¬ (0 : Int) < n by omega), e, Int.pow_zero]
    exact Ev.now _
/-- The power that lies in a number. -/
theorem power_any {p x : Int} (h : IsP p) (hx : x ≠ 0) (h0 : -9223372036854775807 ≤ x) (h1 : x ≤ 9223372036854775807) : Ev (fun k => impl_power.f k p (vl p x)) (p ^ vl p x) :=
  power_big h (by have := pow_vl_le h hx; omega) (by have := vl_le_62 h hx h0 h1; omega)
theorem l01Power_l {p : Int} (h : IsP p) : ∀ (d : Nat) (i : Nat), p ^ (i + d) ≤ 9223372036854775807 → i + d ≤ 1000 → Ev (fun k => spec_l01Power.l0 k p d (p ^ i)) (p ^ (i + d)) := by
  intro d
  induction d with
  | zero =>
    intro i _ _
    refine Ev.step (fun k => by rw [spec_l01Power.l0]) ?_
    simp only [if_neg (show ¬ ((0 : Nat) : Int) > 0 by omega)]
    exact Ev.now _
  | succ d ih =>
    intro i hi hi'
    refine Ev.step (fun k => by rw [spec_l01Power.l0]) ?_
    have h2 := pow_pos' h (i + 1)
    have h3 := pow_mono h (m := i + 1) (n := i + (d + 1)) (by omega)
    have e1 : wrap64 (p ^ i * p) = p ^ (i + 1) := by rw [← show p ^ (i + 1) = p ^ i * p from Int.pow_succ p i]; exact wrap_id (by omega) (by omega)
    have e2 : wrap64 (((d + 1 : Nat) : Int) - 1) = (d : Int) := by rw [wrap_id (by omega) (by omega)]; omega
    simp only [if_pos (show ((d + 1 : Nat) : Int) > 0 by omega), e1, e2]
    have e3 : i + (d + 1) = i + 1 + d := by omega
    rw [e3] at hi ⊢
    exact ih (i + 1) hi (by omega)
theorem l01Power_big {p : Int} (h : IsP p) {n : Nat} (hn : p ^ n ≤ 9223372036854775807) (hn' : n ≤ 1000) : Ev (fun k => spec_l01Power.f k p n) (p ^ n) := by
  unfold spec_l01Power.f
  have := l01Power_l h n 0 (by rw [Nat.zero_add]; exact hn) (by omega)
  rw [Int.pow_zero, Nat.zero_add] at this
  exact this
theorem l01Power_ev {p : Int} (h : IsP p) {n : Int} (hn : n ≤ 22) : Ev (fun k => spec_l01Power.f k p n) (p ^ n.toNat) := by
  by_cases h0 : 0 ≤ n
  · have := l01Power_big h (n := n.toNat) (by have := pow_le_22 h (n := n.toNat) (by omega); omega) (by omega)
    rw [Int.toNat_of_nonneg h0] at this
    exact this
  · unfold spec_l01Power.f
    refine Ev.step (fun k => by rw [spec_l01Power.l0]) ?_
    have e : n.toNat = 0 := by omega
    simp only [if_neg (show ¬ n > 0 by omega), e, Int.pow_zero]
    exact Ev.now _
theorem l01Power_any {p x : Int} (h : IsP p) (hx : x ≠ 0) (h0 : -9223372036854775807 ≤ x) (h1 : x ≤ 9223372036854775807) : Ev (fun k => spec_l01Power.f k p (vl p x)) (p ^ vl p x) :=
  l01Power_big h (by have := pow_vl_le h hx; omega) (by have := vl_le_62 h hx h0 h1; omega)
theorem valuation_l {p : Int} (h : IsP p) : ∀ (v : Nat) (u : Int) (n : Int), ¬ p ∣ u → -9223372036854775807 ≤ p ^ v * u → p ^ v * u ≤ 9223372036854775807 → 0 ≤ n → n + v ≤ 1000 → Ev (fun k => impl_valuation.l0 k p (p ^ v * u) n) (n + v) := by
  intro v
  induction v with
  | zero =>
    intro u n hu h0 h1 hn hv
    refine Ev.step (fun k => by rw [impl_valuation.l0]) ?_
    have hne : ¬ Int.tmod (p ^ 0 * u) p = 0 := fun e => by
      rw [tmod_zero_iff, Int.pow_zero, Int.one_mul] at e; exact hu e
    simp only [if_neg h.ne, if_neg hne]
    exact ev_some (by simp)
  | succ v ih =>
    intro u n hu h0 h1 hn hv
    refine Ev.step (fun k => by rw [impl_valuation.l0]) ?_
    have e0 : p ^ (v + 1) * u = p * (p ^ v * u) := by rw [Int.pow_succ, Int.mul_comm (p ^ v) p, Int.mul_assoc]
    have hd : Int.tmod (p ^ (v + 1) * u) p = 0 := by rw [tmod_zero_iff, e0]; exact Int.dvd_mul_right _ _
    have e1 : Int.tdiv (p ^ (v + 1) * u) p = p ^ v * u := by rw [e0]; exact tdiv_mul_left h.ne
    have hb := tdiv_bounds (n := p ^ (v + 1) * u) (m := p)
    rw [e1] at hb
    have e2 : wrap64 (p ^ v * u) = p ^ v * u := wrap_id (by omega) (by omega)
    have e3 : wrap64 (n + 1) = n + 1 := wrap_id (by omega) (by omega)
    simp only [if_neg h.ne, if_pos hd, e1, e2, e3]
    exact ev_eq (ih u (n + 1) hu (by omega) (by omega) (by omega) (by omega)) (by omega)
theorem valuation_ev {p : Int} (h : IsP p) {x : Int} (hx : x ≠ 0) (h0 : -9223372036854775807 ≤ x) (h1 : x ≤ 9223372036854775807) : Ev (fun k => impl_valuation.f k p x) (vl p x) := by
  unfold impl_valuation.f
  simp only [if_neg hx]
  obtain ⟨u, hu, hnd, _⟩ := vl_split h x hx
  have hv := vl_le_62 h hx h0 h1
  have := valuation_l h (vl p x) u 0 hnd (by omega) (by omega) (by omega) (by omega)
  rw [← hu, Int.zero_add] at this
  exact this
theorem valuation_zero (k : Nat) (p : Int) : impl_valuation.f k p 0 = some 1000 := by unfold impl_valuation.f; rw [if_pos rfl]
theorem valuation_zero_ev (p : Int) : Ev (fun k => impl_valuation.f k p 0) 1000 := ⟨0, fun k _ => valuation_zero k p⟩
/-- Of every number: 1000 for 0. -/
def vx (p x : Int) : Int := if x = 0 then 1000 else vl p x
theorem valuation_any {p : Int} (h : IsP p) {x : Int} (h0 : -9223372036854775807 ≤ x) (h1 : x ≤ 9223372036854775807) : Ev (fun k => impl_valuation.f k p x) (vx p x) := by
  unfold vx
  by_cases hx : x = 0
  · subst hx; rw [if_pos rfl]; exact valuation_zero_ev p
  · rw [if_neg hx]; exact valuation_ev h hx h0 h1
theorem l01Val_l {p : Int} (h : IsP p) : ∀ (v : Nat) (u : Int) (n : Int), ¬ p ∣ u → -9223372036854775807 ≤ p ^ v * u → p ^ v * u ≤ 9223372036854775807 → 0 ≤ n → n + v ≤ 1000 → Ev (fun k => spec_l01Val.l0 k p (p ^ v * u) n) (n + v) := by
  intro v
  induction v with
  | zero =>
    intro u n hu h0 h1 hn hv
    refine Ev.step (fun k => by rw [spec_l01Val.l0]) ?_
    have hne : ¬ Int.tmod (p ^ 0 * u) p = 0 := fun e => by
      rw [tmod_zero_iff, Int.pow_zero, Int.one_mul] at e; exact hu e
    simp only [if_neg h.ne, if_neg hne]
    exact ev_some (by simp)
  | succ v ih =>
    intro u n hu h0 h1 hn hv
    refine Ev.step (fun k => by rw [spec_l01Val.l0]) ?_
    have e0 : p ^ (v + 1) * u = p * (p ^ v * u) := by rw [Int.pow_succ, Int.mul_comm (p ^ v) p, Int.mul_assoc]
    have hd : Int.tmod (p ^ (v + 1) * u) p = 0 := by rw [tmod_zero_iff, e0]; exact Int.dvd_mul_right _ _
    have e1 : Int.tdiv (p ^ (v + 1) * u) p = p ^ v * u := by rw [e0]; exact tdiv_mul_left h.ne
    have hb := tdiv_bounds (n := p ^ (v + 1) * u) (m := p)
    rw [e1] at hb
    have e2 : wrap64 (p ^ v * u) = p ^ v * u := wrap_id (by omega) (by omega)
    have e3 : wrap64 (n + 1) = n + 1 := wrap_id (by omega) (by omega)
    simp only [if_neg h.ne, if_pos hd, e1, e2, e3]
    exact ev_eq (ih u (n + 1) hu (by omega) (by omega) (by omega) (by omega)) (by omega)
theorem l01Val_ev {p : Int} (h : IsP p) {x : Int} (hx : x ≠ 0) (h0 : -9223372036854775807 ≤ x) (h1 : x ≤ 9223372036854775807) : Ev (fun k => spec_l01Val.f k p x) (vl p x) := by
  unfold spec_l01Val.f
  obtain ⟨u, hu, hnd, _⟩ := vl_split h x hx
  have hv := vl_le_62 h hx h0 h1
  have := l01Val_l h (vl p x) u 0 hnd (by omega) (by omega) (by omega) (by omega)
  rw [← hu, Int.zero_add] at this
  exact this
theorem IsBall_ev {p l t d : Int} (hl : -9223372036854775808 ≤ l ∧ l ≤ 9223372036854775807) (hd : -9223372036854775808 ≤ d ∧ d ≤ 9223372036854775807) :
    Ev (fun k => impl_IsBall.f k p l t d) (decide (IsP p ∧ Bal p l t d)) := by
  unfold impl_IsBall.f
  simp only [isPrime_eq, isLevel_eq, Option.bind_some]
  have bad : ∀ {c : Prop} [Decidable c], ¬ c → Ev (fun k => impl_IsBall.j0 k p true l t d) (decide c) := by
    intro c _ hc
    refine Ev.step (fun k => by rw [impl_IsBall.j0]) ?_
    simp only [if_true]
    exact ev_some (by simp [hc])
  by_cases hp : IsP p
  · simp only [hp, decide_true, if_true]
    by_cases h1 : -6 ≤ l ∧ l ≤ 6
    · simp only [h1, decide_true, if_true, and_self]
      by_cases h2 : d < 0
      · simp only [if_pos h2]
        exact bad (by unfold Bal; omega)
      · simp only [if_neg h2]
        by_cases h3 : d > 6
        · simp only [h3, decide_true]
          exact bad (by unfold Bal; omega)
        · simp only [h3, decide_false]
          refine Ev.step (fun k => by rw [impl_IsBall.j0]) ?_
          have e : wrap64 (l + d) = l + d := wrap_id (by omega) (by omega)
          simp only [if_neg Bool.false_ne_true, e]
          by_cases h4 : l + d ≤ 0
          · simp only [if_pos h4]
            by_cases h5 : t = 0
            · simp only [if_pos h5]
              exact ev_dec (by rw [Bal_low h4]; simp [hp, h5]; omega)
            · simp only [if_neg h5]
              exact ev_dec (by rw [Bal_low h4]; simp [h5])
          · simp only [if_neg h4]
            have hpw := pow_pos' hp (l + d).toNat
            by_cases h5 : t ≥ 0
            · simp only [if_pos h5]
              rw [bnd (power_ev hp (by omega))]
              by_cases h6 : t < p ^ (l + d).toNat
              · simp only [if_pos h6]
                by_cases h7 : d = 0
                · simp only [if_pos h7]
                  exact ev_dec (by rw [Bal_high h4]; simp [hp, h7] at h6 ⊢; omega)
                · simp only [if_neg h7, if_neg hp.ne]
                  refine ev_dec ?_
                  rw [Bal_high h4]
                  by_cases h8 : p ∣ t <;> simp [hp, h7, tmod_zero_iff, h8] <;> omega
              · simp only [if_neg h6]
                exact ev_dec (by rw [Bal_high h4]; simp [hp]; omega)
            · simp only [if_neg h5]
              exact ev_dec (by rw [Bal_high h4]; simp [hp]; omega)
    · simp only [h1, decide_false, if_neg Bool.false_ne_true]
      exact bad (by unfold Bal; omega)
  · simp only [hp, decide_false, if_neg Bool.false_ne_true]
    exact bad (by simp)
theorem l01Is_ev {p l t d : Int} (hl : -9223372036854775808 ≤ l ∧ l ≤ 9223372036854775807) (hd : -9223372036854775808 ≤ d ∧ d ≤ 9223372036854775807) :
    Ev (fun k => spec_l01Is.f k p l t d) (decide (IsP p ∧ Bal p l t d)) := by
  unfold spec_l01Is.f
  simp only [l01Prime_eq, l01In_eq, Option.bind_some]
  have bad : ∀ {c : Prop} [Decidable c], ¬ c → Ev (fun k => spec_l01Is.j0 k p true l t d) (decide c) := by
    intro c _ hc
    refine Ev.step (fun k => by rw [spec_l01Is.j0]) ?_
    simp only [if_true]
    exact ev_some (by simp [hc])
  by_cases hp : IsP p
  · simp only [hp, decide_true, if_true]
    by_cases h1 : -6 ≤ l ∧ l ≤ 6
    · simp only [h1, decide_true, if_true, and_self]
      by_cases h2 : 0 ≤ d ∧ d ≤ 6
      · simp only [h2, decide_true, and_self, Bool.not_true]
        refine Ev.step (fun k => by rw [spec_l01Is.j0]) ?_
        have e : wrap64 (l + d) = l + d := wrap_id (by omega) (by omega)
        simp only [if_neg Bool.false_ne_true, e]
        by_cases h4 : l + d ≤ 0
        · simp only [if_pos h4]
          by_cases h5 : t = 0
          · simp only [if_pos h5]
            exact ev_dec (by rw [Bal_low h4]; simp [hp, h5]; omega)
          · simp only [if_neg h5]
            exact ev_dec (by rw [Bal_low h4]; simp [h5])
        · simp only [if_neg h4]
          have hpw := pow_pos' hp (l + d).toNat
          have hpw2 := pow_le_22 hp (n := (l + d).toNat) (by omega)
          rw [bnd (l01Power_ev hp (by omega))]
          have e2 : wrap64 (p ^ (l + d).toNat - 1) = p ^ (l + d).toNat - 1 := wrap_id (by omega) (by omega)
          simp only [l01In_eq, Option.bind_some, e2]
          by_cases h6 : 0 ≤ t ∧ t ≤ p ^ (l + d).toNat - 1
          · simp only [h6, decide_true, if_true, and_self]
            by_cases h7 : d = 0
            · simp only [if_pos h7]
              exact ev_dec (by rw [Bal_high h4]; simp [hp, h7] at h6 ⊢; omega)
            · simp only [if_neg h7, if_neg hp.ne]
              refine ev_dec ?_
              rw [Bal_high h4]
              by_cases h8 : p ∣ t <;> simp [hp, h7, tmod_zero_iff, h8] <;> omega
          · simp only [h6, decide_false, if_neg Bool.false_ne_true]
            exact ev_dec (by rw [Bal_high h4]; simp [hp]; omega)
      · simp only [h2, decide_false, Bool.not_false]
        exact bad (by unfold Bal; omega)
    · simp only [h1, decide_false, if_neg Bool.false_ne_true]
      exact bad (by unfold Bal; omega)
  · simp only [hp, decide_false, if_neg Bool.false_ne_true]
    exact bad (by simp)
def BallOk (p : Int) (b : S26) : Prop := Bal p b.f0 b.f1 b.f2
instance (p : Int) (b : S26) : Decidable (BallOk p b) := by unfold BallOk; infer_instance
def BallWf (b : S26) : Prop := (-9223372036854775808 ≤ b.f0 ∧ b.f0 ≤ 9223372036854775807) ∧ (-9223372036854775808 ≤ b.f2 ∧ b.f2 ≤ 9223372036854775807)
theorem rd_ball_at (pre : List S26) (b : S26) (ys : List S26) : rd_T26 (pre ++ b :: ys) (pre.length : Int) = b := by
  unfold rd_T26
  simp [List.getD_eq_getElem?_getD]
theorem l01Code_l {p : Int} (hp : IsP p) : ∀ (ys pre : List S26), (pre ++ ys).length ≤ 1000 → (∀ b ∈ ys, BallWf b) → Ev (fun k => spec_l01Code.l0 k p (pre ++ ys) pre.length) (if ∀ b ∈ ys, BallOk p b then 0 else 1) := by
  intro ys
  induction ys with
  | nil =>
    intro pre _ _
    refine Ev.step (fun k => by rw [spec_l01Code.l0]) ?_
    simp only [List.append_nil, if_neg (Int.lt_irrefl _)]
    exact ev_some (by simp)
  | cons b ys ih =>
    intro pre hl hw
    refine Ev.step (fun k => by rw [spec_l01Code.l0]) ?_
    have hl' : (pre ++ b :: ys).length = pre.length + (ys.length + 1) := by simp
    have h1 : (pre.length : Int) < ((pre ++ b :: ys).length : Int) := by omega
    simp only [if_pos h1, if_pos (show (0 : Int) ≤ (pre.length : Int) by omega), rd_ball_at]
    have hb := hw b (by simp)
    rw [bnd (l01Is_ev hb.1 hb.2)]
    by_cases hB : Bal p b.f0 b.f1 b.f2
    · simp only [hp, hB, and_self, decide_true, if_true]
      have e : wrap64 ((pre.length : Int) + 1) = ((pre ++ [b]).length : Int) := by rw [wrap_id (by omega) (by omega)]; simp
      have := ih (pre ++ [b]) (by simpa using hl) (fun c hc => hw c (by simp [hc]))
      rw [e]
      simp only [List.append_assoc, List.singleton_append] at this
      refine ev_eq this ?_
      have : (∀ c ∈ b :: ys, BallOk p c) ↔ (∀ c ∈ ys, BallOk p c) := by simp [BallOk, hB]
      simp only [this]
    · simp only [hp, hB, and_false, decide_false, if_neg Bool.false_ne_true]
      refine ev_some ?_
      rw [if_neg]
      intro hall
      exact hB (hall b (by simp))
theorem l01Code_ev {p : Int} {ys : List S26} (hl : ys.length ≤ 1000) (hw : ∀ b ∈ ys, BallWf b) : Ev (fun k => spec_l01Code.f k p ys) (if IsP p ∧ ∀ b ∈ ys, BallOk p b then 0 else 1) := by
  unfold spec_l01Code.f
  simp only [l01Prime_eq, Option.bind_some]
  by_cases hp : IsP p
  · simp only [hp, decide_true, if_true, true_and]
    exact l01Code_l hp ys [] (by simpa using hl) hw
  · simp only [hp, decide_false, if_neg Bool.false_ne_true, false_and, if_false]
    exact Ev.now _
theorem l01Code1 {p l t d : Int} (hl : -9223372036854775808 ≤ l ∧ l ≤ 9223372036854775807) (hd : -9223372036854775808 ≤ d ∧ d ≤ 9223372036854775807) :
    Ev (fun k => spec_l01Code.f k p [⟨l, t, d⟩]) (if IsP p ∧ Bal p l t d then 0 else 1) := by
  refine ev_eq (l01Code_ev (by simp) (by intro b hb; simp at hb; subst hb; exact ⟨hl, hd⟩)) ?_
  simp [BallOk]
theorem l01Code2 {p l t d l' t' d' : Int} (hl : -9223372036854775808 ≤ l ∧ l ≤ 9223372036854775807) (hd : -9223372036854775808 ≤ d ∧ d ≤ 9223372036854775807)
    (hl' : -9223372036854775808 ≤ l' ∧ l' ≤ 9223372036854775807) (hd' : -9223372036854775808 ≤ d' ∧ d' ≤ 9223372036854775807) :
    Ev (fun k => spec_l01Code.f k p [⟨l, t, d⟩, ⟨l', t', d'⟩]) (if IsP p ∧ Bal p l t d ∧ Bal p l' t' d' then 0 else 1) := by
  refine ev_eq (l01Code_ev (by simp) (by intro b hb; simp at hb; rcases hb with rfl | rfl; exact ⟨hl, hd⟩; exact ⟨hl', hd'⟩)) ?_
  simp [BallOk]
theorem l01Code3 {p l t d l' t' d' l2 t2 d2 : Int} (hl : -9223372036854775808 ≤ l ∧ l ≤ 9223372036854775807) (hd : -9223372036854775808 ≤ d ∧ d ≤ 9223372036854775807)
    (hl' : -9223372036854775808 ≤ l' ∧ l' ≤ 9223372036854775807) (hd' : -9223372036854775808 ≤ d' ∧ d' ≤ 9223372036854775807)
    (hl2 : -9223372036854775808 ≤ l2 ∧ l2 ≤ 9223372036854775807) (hd2 : -9223372036854775808 ≤ d2 ∧ d2 ≤ 9223372036854775807) :
    Ev (fun k => spec_l01Code.f k p [⟨l, t, d⟩, ⟨l', t', d'⟩, ⟨l2, t2, d2⟩]) (if IsP p ∧ Bal p l t d ∧ Bal p l' t' d' ∧ Bal p l2 t2 d2 then 0 else 1) := by
  refine ev_eq (l01Code_ev (by simp) (by intro b hb; simp at hb; rcases hb with rfl | rfl | rfl; exact ⟨hl, hd⟩; exact ⟨hl', hd'⟩; exact ⟨hl2, hd2⟩)) ?_
  simp [BallOk]
theorem areBalls_l {p : Int} (hp : IsP p) : ∀ (ys pre : List S26), (pre ++ ys).length ≤ 1000 → (∀ b ∈ ys, BallWf b) → Ev (fun k => impl_areBalls.l0 k p (pre ++ ys) ((pre ++ ys).length : Int) pre.length) (decide (∀ b ∈ ys, BallOk p b)) := by
  intro ys
  induction ys with
  | nil =>
    intro pre _ _
    refine Ev.step (fun k => by rw [impl_areBalls.l0]) ?_
    simp only [List.append_nil, if_neg (Int.lt_irrefl _)]
    simp only [isPrime_eq, Option.bind_some, hp]
    exact ev_some (by simp)
  | cons b ys ih =>
    intro pre hl hw
    refine Ev.step (fun k => by rw [impl_areBalls.l0]) ?_
    have hl' : (pre ++ b :: ys).length = pre.length + (ys.length + 1) := by simp
    have h1 : (pre.length : Int) < ((pre ++ b :: ys).length : Int) := by omega
    simp only [if_pos h1, if_pos (show (0 : Int) ≤ (pre.length : Int) by omega), rd_ball_at]
    have hb := hw b (by simp)
    rw [bnd (IsBall_ev hb.1 hb.2)]
    by_cases hB : Bal p b.f0 b.f1 b.f2
    · simp only [hp, hB, and_self, decide_true, if_true]
      have e : wrap64 ((pre.length : Int) + 1) = ((pre ++ [b]).length : Int) := by rw [wrap_id (by omega) (by omega)]; simp
      have := ih (pre ++ [b]) (by simpa using hl) (fun c hc => hw c (by simp [hc]))
      rw [e]
      simp only [List.append_assoc, List.singleton_append] at this
      refine ev_eq this ?_
      have : (∀ c ∈ b :: ys, BallOk p c) ↔ (∀ c ∈ ys, BallOk p c) := by simp [BallOk, hB]
      simp only [this]
    · simp only [hp, hB, and_false, decide_false, if_neg Bool.false_ne_true]
      refine ev_some ?_
      symm
      rw [decide_eq_false_iff_not]
      intro hall
      exact hB (hall b (by simp))
theorem areBalls_no {p : Int} (hp : ¬ IsP p) : ∀ (ys : List S26), ys.length ≤ 1000 → (∀ b ∈ ys, BallWf b) → Ev (fun k => impl_areBalls.f k p ys) false := by
  intro ys hl hw
  unfold impl_areBalls.f
  refine Ev.step (fun k => by rw [impl_areBalls.l0]) ?_
  cases ys with
  | nil =>
    simp only [List.length_nil, if_neg (show ¬ (0 : Int) < ((0 : Nat) : Int) by omega)]
    simp only [isPrime_eq, Option.bind_some, hp]
    exact ev_some (by simp)
  | cons b ys =>
    have h1 : (0 : Int) < ((b :: ys).length : Int) := by rw [List.length_cons]; omega
    have h2 := rd_ball_at [] b ys
    simp only [List.nil_append, List.length_nil] at h2
    simp only [if_pos h1, if_pos (Int.le_refl 0)]
    have hb := hw b (by simp)
    have h3 : rd_T26 (b :: ys) 0 = b := h2
    rw [h3, bnd (IsBall_ev hb.1 hb.2)]
    simp only [hp, false_and, decide_false, if_neg Bool.false_ne_true]
    exact Ev.now _
theorem areBalls_ev {p : Int} {ys : List S26} (hl : ys.length ≤ 1000) (hw : ∀ b ∈ ys, BallWf b) : Ev (fun k => impl_areBalls.f k p ys) (decide (IsP p ∧ ∀ b ∈ ys, BallOk p b)) := by
  by_cases hp : IsP p
  · unfold impl_areBalls.f
    refine ev_eq (areBalls_l hp ys [] (by simpa using hl) hw) (by simp [hp])
  · refine ev_eq (areBalls_no hp ys hl hw) (by simp [hp])
theorem areBalls2 {p l t d l' t' d' : Int} (hl : -9223372036854775808 ≤ l ∧ l ≤ 9223372036854775807) (hd : -9223372036854775808 ≤ d ∧ d ≤ 9223372036854775807)
    (hl' : -9223372036854775808 ≤ l' ∧ l' ≤ 9223372036854775807) (hd' : -9223372036854775808 ≤ d' ∧ d' ≤ 9223372036854775807) :
    Ev (fun k => impl_areBalls.f k p [⟨l, t, d⟩, ⟨l', t', d'⟩]) (decide (IsP p ∧ Bal p l t d ∧ Bal p l' t' d')) := by
  refine ev_eq (areBalls_ev (by simp) (by intro b hb; simp at hb; rcases hb with rfl | rfl; exact ⟨hl, hd⟩; exact ⟨hl', hd'⟩)) ?_
  simp [BallOk]
theorem areBalls3 {p l t d l' t' d' l2 t2 d2 : Int} (hl : -9223372036854775808 ≤ l ∧ l ≤ 9223372036854775807) (hd : -9223372036854775808 ≤ d ∧ d ≤ 9223372036854775807)
    (hl' : -9223372036854775808 ≤ l' ∧ l' ≤ 9223372036854775807) (hd' : -9223372036854775808 ≤ d' ∧ d' ≤ 9223372036854775807)
    (hl2 : -9223372036854775808 ≤ l2 ∧ l2 ≤ 9223372036854775807) (hd2 : -9223372036854775808 ≤ d2 ∧ d2 ≤ 9223372036854775807) :
    Ev (fun k => impl_areBalls.f k p [⟨l, t, d⟩, ⟨l', t', d'⟩, ⟨l2, t2, d2⟩]) (decide (IsP p ∧ Bal p l t d ∧ Bal p l' t' d' ∧ Bal p l2 t2 d2)) := by
  refine ev_eq (areBalls_ev (by simp) (by intro b hb; simp at hb; rcases hb with rfl | rfl | rfl; exact ⟨hl, hd⟩; exact ⟨hl', hd'⟩; exact ⟨hl2, hd2⟩)) ?_
  simp [BallOk]
theorem rd_at (pre : List Int) (b : Int) (ys : List Int) : rd (pre ++ b :: ys) (pre.length : Int) = b := by
  unfold rd
  simp [List.getD_eq_getElem?_getD]
theorem within_l {m : Int} (h0 : 0 ≤ m) (h1 : m ≤ 9223372036854775807) : ∀ (ys pre : List Int), (pre ++ ys).length ≤ 1000 → Ev (fun k => impl_within.l0 k m (pre ++ ys) ((pre ++ ys).length : Int) pre.length) (decide (∀ b ∈ ys, -m ≤ b ∧ b ≤ m)) := by
  intro ys
  induction ys with
  | nil =>
    intro pre _
    refine Ev.step (fun k => by rw [impl_within.l0]) ?_
    simp only [List.append_nil, if_neg (Int.lt_irrefl _)]
    exact ev_some (by simp)
  | cons b ys ih =>
    intro pre hl
    refine Ev.step (fun k => by rw [impl_within.l0]) ?_
    have hl' : (pre ++ b :: ys).length = pre.length + (ys.length + 1) := by simp
    have hlt : (pre.length : Int) < ((pre ++ b :: ys).length : Int) := by omega
    have em : wrap64 (-m) = -m := wrap_id (by omega) (by omega)
    simp only [if_pos hlt, if_pos (show (0 : Int) ≤ (pre.length : Int) by omega), rd_at, em]
    by_cases h2 : b < -m
    · simp only [if_pos h2]
      refine ev_some ?_
      symm
      rw [decide_eq_false_iff_not]
      intro hall
      have := hall b (by simp)
      omega
    · simp only [if_neg h2]
      by_cases h3 : b > m
      · simp only [if_pos h3]
        refine ev_some ?_
        symm
        rw [decide_eq_false_iff_not]
        intro hall
        have := hall b (by simp)
        omega
      · simp only [if_neg h3]
        have e : wrap64 ((pre.length : Int) + 1) = ((pre ++ [b]).length : Int) := by rw [wrap_id (by omega) (by omega)]; simp
        have := ih (pre ++ [b]) (by simpa using hl)
        rw [e]
        simp only [List.append_assoc, List.singleton_append] at this
        refine ev_eq this ?_
        have : (∀ c ∈ b :: ys, -m ≤ c ∧ c ≤ m) ↔ (∀ c ∈ ys, -m ≤ c ∧ c ≤ m) := by simp; omega
        simp only [this]
theorem within2 {m a b : Int} (h0 : 0 ≤ m) (h1 : m ≤ 9223372036854775807) : Ev (fun k => impl_within.f k m [a, b]) (decide ((-m ≤ a ∧ a ≤ m) ∧ -m ≤ b ∧ b ≤ m)) := by
  unfold impl_within.f
  refine ev_eq (within_l h0 h1 _ [] (by simp)) ?_
  simp
theorem within4 {m a b c d : Int} (h0 : 0 ≤ m) (h1 : m ≤ 9223372036854775807) : Ev (fun k => impl_within.f k m [a, b, c, d]) (decide ((-m ≤ a ∧ a ≤ m) ∧ (-m ≤ b ∧ b ≤ m) ∧ (-m ≤ c ∧ c ≤ m) ∧ -m ≤ d ∧ d ≤ m)) := by
  unfold impl_within.f
  refine ev_eq (within_l h0 h1 _ [] (by simp)) ?_
  simp
theorem gcd_l : ∀ (n : Nat) (a b : Int), b.natAbs ≤ n → a.natAbs ≤ 9223372036854775807 → b.natAbs ≤ 9223372036854775807 → Ev (fun k => impl_gcd.l0 k a b) (Int.gcd a b : Int) := by
  intro n
  induction n with
  | zero =>
    intro a b hb h0 h1
    obtain rfl : b = 0 := by omega
    refine Ev.step (fun k => by rw [impl_gcd.l0]) ?_
    simp only [if_true]
    refine ev_some ?_
    rw [wrap_id (by omega) (by omega), Int.gcd_zero]
    unfold mx; split <;> omega
  | succ n ih =>
    intro a b hb h0 h1
    refine Ev.step (fun k => by rw [impl_gcd.l0]) ?_
    by_cases hz : b = 0
    · subst hz
      simp only [if_true]
      refine ev_some ?_
      rw [wrap_id (by omega) (by omega), Int.gcd_zero]
      unfold mx; split <;> omega
    · simp only [if_neg hz]
      have hlt := tmod_natAbs_lt (a := a) hz
      refine ev_eq (ih b (Int.tmod a b) (by omega) (by omega) (by omega)) ?_
      rw [gcd_tmod]
theorem gcd_ev {a b : Int} (h0 : a.natAbs ≤ 9223372036854775807) (h1 : b.natAbs ≤ 9223372036854775807) : Ev (fun k => impl_gcd.f k a b) (Int.gcd a b : Int) := by
  unfold impl_gcd.f
  exact gcd_l b.natAbs a b (Nat.le_refl _) h0 h1
theorem l01Gcd_l : ∀ (n : Nat) (a b : Int), b.natAbs ≤ n → a.natAbs ≤ 9223372036854775807 → b.natAbs ≤ 9223372036854775807 → Ev (fun k => spec_l01Gcd.l0 k a b) (Int.gcd a b : Int) := by
  intro n
  induction n with
  | zero =>
    intro a b hb h0 h1
    obtain rfl : b = 0 := by omega
    refine Ev.step (fun k => by rw [spec_l01Gcd.l0]) ?_
    simp only [if_true]
    refine ev_some ?_
    rw [wrap_id (by omega) (by omega), Int.gcd_zero]
    unfold mx; split <;> omega
  | succ n ih =>
    intro a b hb h0 h1
    refine Ev.step (fun k => by rw [spec_l01Gcd.l0]) ?_
    by_cases hz : b = 0
    · subst hz
      simp only [if_true]
      refine ev_some ?_
      rw [wrap_id (by omega) (by omega), Int.gcd_zero]
      unfold mx; split <;> omega
    · simp only [if_neg hz]
      have hlt := tmod_natAbs_lt (a := a) hz
      refine ev_eq (ih b (Int.tmod a b) (by omega) (by omega) (by omega)) ?_
      rw [gcd_tmod]
theorem l01Gcd_ev {a b : Int} (h0 : a.natAbs ≤ 9223372036854775807) (h1 : b.natAbs ≤ 9223372036854775807) : Ev (fun k => spec_l01Gcd.f k a b) (Int.gcd a b : Int) := by
  unfold spec_l01Gcd.f
  exact l01Gcd_l b.natAbs a b (Nat.le_refl _) h0 h1
theorem IsEnd_ev {n d : Int} : Ev (fun k => impl_IsEnd.f k n d) (decide (EndOk n d)) := by
  unfold impl_IsEnd.f EndOk
  by_cases hd : d = 0
  · simp only [if_pos hd]
    exact ev_dec (by simp)
  · simp only [if_neg hd]
    rw [bnd (within2 (by omega) (by omega))]
    by_cases h1 : (-1000000 ≤ n ∧ n ≤ 1000000) ∧ -1000000 ≤ d ∧ d ≤ 1000000
    · simp only [h1, and_self, decide_true, if_true]
      by_cases h2 : d > 0
      · simp only [if_pos h2]
        rw [bnd (gcd_ev (by omega) (by omega))]
        exact ev_dec (by simp; omega)
      · simp only [if_neg h2]
        exact ev_dec (by simp; omega)
    · simp only [h1, decide_false, if_neg Bool.false_ne_true]
      exact ev_dec (by simp; omega)
theorem l01End_ev {n d : Int} : Ev (fun k => spec_l01End.f k n d) (decide (EndOk n d)) := by
  unfold spec_l01End.f EndOk
  by_cases hd : d = 0
  · simp only [if_pos hd]
    exact ev_dec (by simp)
  · simp only [if_neg hd, l01In_eq, Option.bind_some]
    by_cases h1 : 1 ≤ d ∧ d ≤ 1000000
    · simp only [h1, and_self, decide_true, if_true]
      by_cases h2 : -1000000 ≤ n ∧ n ≤ 1000000
      · simp only [h2, and_self, decide_true, if_true]
        rw [bnd (l01Gcd_ev (by omega) (by omega))]
        exact ev_dec (by simp; omega)
      · simp only [h2, decide_false, if_neg Bool.false_ne_true]
        exact ev_dec (by simp; omega)
    · simp only [h1, decide_false, if_neg Bool.false_ne_true]
      exact ev_dec (by simp; omega)
theorem mk_bound {p t d : Int} (h : IsP p) (hd : 0 ≤ d) (ht : -13841287201 ≤ t ∧ t ≤ 13841287201) : -1628413597910449 ≤ mk p t d ∧ mk p t d ≤ 1628413597910449 := by
  unfold mk
  have h0 := pow_pos' h (6 - d).toNat
  have h1 := pow_le_seven h (m := (6 - d).toNat) (n := 6) (by omega)
  have e : (7 : Int) ^ 6 = 117649 := by decide
  rw [e] at h1
  rcases Int.le_total 0 t with h2 | h2
  · have a := Int.mul_le_mul ht.2 h1 (Int.le_of_lt h0) (by omega)
    have b := Int.mul_nonneg h2 (Int.le_of_lt h0)
    omega
  · have a := Int.mul_le_mul (show -t ≤ 13841287201 by omega) h1 (Int.le_of_lt h0) (by omega)
    have b := Int.mul_nonneg (show 0 ≤ -t by omega) (Int.le_of_lt h0)
    rw [Int.neg_mul] at a b
    omega
theorem mark_ev {p l t d : Int} (h : IsP p) (hb : Bal p l t d) : Ev (fun k => impl_mark.f k p l t d) (mk p t d) := by
  unfold impl_mark.f
  have hs := hb.small h
  have hd : 0 ≤ d ∧ d ≤ 6 := by unfold Bal at hb; omega
  have hm := mk_bound h hd.1 (t := t) (by omega)
  have e : wrap64 (6 - d) = 6 - d := wrap_id (by omega) (by omega)
  simp only [e]
  rw [bnd (power_ev h (by omega))]
  exact ev_some (wrap_id (x := mk p t d) (by omega) (by omega))
theorem mark_le {p l t d : Int} (h : IsP p) (hb : Bal p l t d) : 0 ≤ mk p t d ∧ mk p t d < 13841287201 := by
  have hm := hb.mark h
  have h1 := pow_le_seven h (m := (l + 6).toNat) (n := 12) (by unfold Bal at hb; omega)
  have e : (7 : Int) ^ 12 = 13841287201 := by decide
  omega
theorem near_parts {p l t d num den : Int} (h : IsP p) (hb : Bal p l t d) (hn : -1000000 ≤ num ∧ num ≤ 1000000) (hd : -1000000 ≤ den ∧ den ≤ 1000000) :
    wrap64 (num * p ^ 6) = num * p ^ 6 ∧ wrap64 (mk p t d * den) = mk p t d * den ∧ wrap64 (num * p ^ 6 - mk p t d * den) = num * p ^ 6 - mk p t d * den ∧ -20000000000000000 ≤ num * p ^ 6 - mk p t d * den ∧ num * p ^ 6 - mk p t d * den ≤ 20000000000000000 := by
  have hm := mark_le h hb
  have h0 := pow_pos' h 6
  have h1 := pow_le_seven h (m := 6) (n := 6) (Nat.le_refl _)
  have e6 : (7 : Int) ^ 6 = 117649 := by decide
  rw [e6] at h1
  have a : -117649000000 ≤ num * p ^ 6 ∧ num * p ^ 6 ≤ 117649000000 := by
    rcases Int.le_total 0 num with h2 | h2
    · have a := Int.mul_le_mul hn.2 h1 (Int.le_of_lt h0) (by omega)
      have b := Int.mul_nonneg h2 (Int.le_of_lt h0)
      omega
    · have a := Int.mul_le_mul (show -num ≤ 1000000 by omega) h1 (Int.le_of_lt h0) (by omega)
      have b := Int.mul_nonneg (show 0 ≤ -num by omega) (Int.le_of_lt h0)
      rw [Int.neg_mul] at a b
      omega
  have b : -13841287201000000 ≤ mk p t d * den ∧ mk p t d * den ≤ 13841287201000000 := by
    rcases Int.le_total 0 den with h2 | h2
    · have a := Int.mul_le_mul (show mk p t d ≤ 13841287201 by omega) hd.2 h2 (by omega)
      have b := Int.mul_nonneg hm.1 h2
      omega
    · have a := Int.mul_le_mul (show mk p t d ≤ 13841287201 by omega) (show -den ≤ 1000000 by omega) (by omega) (by omega)
      have b := Int.mul_nonneg hm.1 (show 0 ≤ -den by omega)
      rw [Int.mul_neg] at a b
      omega
  exact ⟨wrap_id (by omega) (by omega), wrap_id (by omega) (by omega), wrap_id (by omega) (by omega), by omega, by omega⟩
theorem nn_range {p l t d num den : Int} (h : IsP p) (hb : Bal p l t d) (hn : -1000000 ≤ num ∧ num ≤ 1000000) (hd : -1000000 ≤ den ∧ den ≤ 1000000) (hz : den ≠ 0) : -100 ≤ nn p t d num den ∧ nn p t d num den ≤ 1000 := by
  obtain ⟨_, _, _, b1, b2⟩ := near_parts h hb hn hd
  unfold nn
  split
  · omega
  · rename_i h0
    have := vl_le_62 h h0 (by omega) (by omega)
    have := vl_le_62 h hz (by omega) (by omega)
    omega
theorem nearness_ev {p l t d num den : Int} (h : IsP p) (hb : Bal p l t d) (hn : -1000000 ≤ num ∧ num ≤ 1000000) (hd : -1000000 ≤ den ∧ den ≤ 1000000) (hz : den ≠ 0) : Ev (fun k => impl_nearness.f k p l t d num den) (nn p t d num den) := by
  unfold impl_nearness.f nn
  obtain ⟨e1, e2, e3, b1, b2⟩ := near_parts h hb hn hd
  have p6 := power_ev h (n := 6) (by omega)
  rw [show (6 : Int).toNat = 6 from rfl] at p6
  rw [bnd p6, bnd (mark_ev h hb), e1, e2, e3]
  by_cases h0 : num * p ^ 6 - mk p t d * den = 0
  · simp only [if_pos h0]; exact Ev.now _
  · have v1 := vl_le_62 h h0 (by omega) (by omega)
    have v2 := vl_le_62 h hz (by omega) (by omega)
    simp only [if_neg h0]
    rw [bnd (valuation_ev h h0 (by omega) (by omega)), bnd (valuation_ev h hz (by omega) (by omega))]
    rw [wrap_id (x := (vl p (num * p ^ 6 - mk p t d * den) : Int) - vl p den) (by omega) (by omega), wrap_id (by omega) (by omega)]
    exact Ev.now _
def turnL (p l t d num den : Int) : Int := mn l (nn p t d num den)
def HeightR (p la ta da lb tb db num den : Int) : Int × Int :=
  if IsP p ∧ Bal p la ta da ∧ Bal p lb tb db then (if EndOk num den then (if den = 0 then (lb - la, 0) else (lb - 2 * turnL p lb tb db num den - la + 2 * turnL p la ta da num den, 0)) else (0, 1)) else (0, 1)
theorem end_range {num den : Int} (h : EndOk num den) (hz : den ≠ 0) : (-1000000 ≤ num ∧ num ≤ 1000000) ∧ -1000000 ≤ den ∧ den ≤ 1000000 := by
  unfold EndOk at h
  rw [if_neg hz] at h
  omega
theorem turn_range {p l t d num den : Int} (h : IsP p) (hb : Bal p l t d) (he : EndOk num den) (hz : den ≠ 0) : -100 ≤ turnL p l t d num den ∧ turnL p l t d num den ≤ 6 := by
  have hr := end_range he hz
  have := nn_range h hb hr.1 hr.2 hz
  have hl : -6 ≤ l ∧ l ≤ 6 := by unfold Bal at hb; omega
  unfold turnL mn
  split <;> omega
theorem turning_ev {p l t d num den : Int} (h : IsP p) (hb : Bal p l t d) (he : EndOk num den) (hz : den ≠ 0) : Ev (fun k => impl_turning.f k p l t d num den) (turnL p l t d num den) := by
  unfold impl_turning.f turnL
  have hr := end_range he hz
  rw [bnd (nearness_ev h hb hr.1 hr.2 hz)]
  exact Ev.now _
theorem implHeightOver_ev {p l t d l' t' d' num den : Int} (hl : -9223372036854775808 ≤ l ∧ l ≤ 9223372036854775807) (hd : -9223372036854775808 ≤ d ∧ d ≤ 9223372036854775807)
    (hl' : -9223372036854775808 ≤ l' ∧ l' ≤ 9223372036854775807) (hd' : -9223372036854775808 ≤ d' ∧ d' ≤ 9223372036854775807) : Ev (fun k => impl_HeightOver.f k p l t d l' t' d' num den) (HeightR p l t d l' t' d' num den) := by
  unfold impl_HeightOver.f HeightR
  rw [bnd (areBalls2 hl hd hl' hd')]
  by_cases h : IsP p ∧ Bal p l t d ∧ Bal p l' t' d'
  · have hr : -6 ≤ l ∧ l ≤ 6 ∧ -6 ≤ l' ∧ l' ≤ 6 := by have h1 := h.2.1; have h2 := h.2.2; unfold Bal at h1 h2; omega
    simp only [h, and_self, decide_true, if_true]
    rw [bnd IsEnd_ev]
    refine Ev.step (fun k => by rw [impl_HeightOver.j0]) ?_
    by_cases he : EndOk num den
    · simp only [he, decide_true, Bool.not_true, if_neg Bool.false_ne_true, if_true]
      by_cases hz : den = 0
      · rw [wrap_id (x := l' - l) (by omega) (by omega)]
        simp only [if_pos hz]; exact Ev.now _
      · simp only [if_neg hz]
        rw [bnd (turning_ev h.1 h.2.2 he hz), bnd (turning_ev h.1 h.2.1 he hz)]
        have t1 := turn_range h.1 h.2.1 he hz
        have t2 := turn_range h.1 h.2.2 he hz
        rw [wrap_id (x := 2 * turnL p l' t' d' num den) (by omega) (by omega), wrap_id (x := 2 * turnL p l t d num den) (by omega) (by omega), wrap_id (x := l' - 2 * turnL p l' t' d' num den) (by omega) (by omega),
          wrap_id (x := l' - 2 * turnL p l' t' d' num den - l) (by omega) (by omega), wrap_id (by omega) (by omega)]
        exact Ev.now _
    · simp only [he, decide_false, Bool.not_false, if_true, if_false]; exact Ev.now _
  · simp only [h, decide_false, if_neg Bool.false_ne_true, if_false]
    refine Ev.step (fun k => by rw [impl_HeightOver.j0]) ?_
    simp only [if_true]; exact Ev.now _
theorem l02Meet_ev {p l t d num den : Int} (h : IsP p) (hb : Bal p l t d) (he : EndOk num den) (hz : den ≠ 0) : Ev (fun k => spec_l02Meet.f k p l t d num den) (turnL p l t d num den) := by
  unfold spec_l02Meet.f turnL nn
  have hr := end_range he hz
  have hs := hb.small h
  have hd : -6 ≤ l ∧ l ≤ 6 ∧ 0 ≤ d ∧ d ≤ 6 := by unfold Bal at hb; omega
  have h0 := pow_pos' h d.toNat
  have h1 := pow_le_seven h (m := d.toNat) (n := 6) (by omega)
  have e6 : (7 : Int) ^ 6 = 117649 := by decide
  rw [e6] at h1
  have a : -117649000000 ≤ num * p ^ d.toNat ∧ num * p ^ d.toNat ≤ 117649000000 := by
    rcases Int.le_total 0 num with h2 | h2
    · have a := Int.mul_le_mul hr.1.2 h1 (Int.le_of_lt h0) (by omega)
      have b := Int.mul_nonneg h2 (Int.le_of_lt h0)
      omega
    · have a := Int.mul_le_mul (show -num ≤ 1000000 by omega) h1 (Int.le_of_lt h0) (by omega)
      have b := Int.mul_nonneg (show 0 ≤ -num by omega) (Int.le_of_lt h0)
      rw [Int.neg_mul] at a b
      omega
  have hdp : 0 < den := by unfold EndOk at he; rw [if_neg hz] at he; omega
  have b : 0 ≤ t * den ∧ t * den ≤ 13841287201000000 := by
    have a := Int.mul_le_mul hs.2 hr.2.2 (Int.le_of_lt hdp) (by omega)
    have b := Int.mul_nonneg hs.1 (Int.le_of_lt hdp)
    omega
  rw [bnd (l01Power_ev h (by omega))]
  rw [wrap_id (x := num * p ^ d.toNat) (by omega) (by omega), wrap_id (x := t * den) (by omega) (by omega), wrap_id (x := num * p ^ d.toNat - t * den) (by omega) (by omega)]
  have hk : num * p ^ 6 - mk p t d * den = p ^ (6 - d).toNat * (num * p ^ d.toNat - t * den) := by
    unfold mk
    have e : p ^ 6 = p ^ (6 - d).toNat * p ^ d.toNat := by rw [← Int.pow_add]; congr 1; omega
    rw [e, Int.mul_sub]
    simp only [Int.mul_assoc, Int.mul_comm, Int.mul_left_comm]
  have hpp := pow_pos' h (6 - d).toNat
  by_cases hq : num * p ^ d.toNat - t * den = 0
  · simp only [if_pos hq]
    rw [if_pos (by rw [hk, hq, Int.mul_zero])]
    refine ev_some ?_
    unfold mn; rw [if_neg (by omega)]
  · have hne := Int.mul_ne_zero (Int.ne_of_gt hpp) hq
    rw [← hk] at hne
    have v1 := vl_le_62 h hq (by omega) (by omega)
    have v2 := vl_le_62 h hz (by omega) (by omega)
    simp only [if_neg hq]
    rw [if_neg hne, bnd (l01Val_ev h hq (by omega) (by omega)), bnd (l01Val_ev h hz (by omega) (by omega))]
    rw [wrap_id (x := (vl p (num * p ^ d.toNat - t * den) : Int) - vl p den) (by omega) (by omega), wrap_id (by omega) (by omega)]
    refine ev_some ?_
    rw [hk, vl_pow_mul h hq]
    congr 1
    omega
theorem specHeightOver_ev {p l t d l' t' d' num den : Int} (hl : -9223372036854775808 ≤ l ∧ l ≤ 9223372036854775807) (hd : -9223372036854775808 ≤ d ∧ d ≤ 9223372036854775807)
    (hl' : -9223372036854775808 ≤ l' ∧ l' ≤ 9223372036854775807) (hd' : -9223372036854775808 ≤ d' ∧ d' ≤ 9223372036854775807) : Ev (fun k => spec_HeightOver.f k p l t d l' t' d' num den) (HeightR p l t d l' t' d' num den) := by
  unfold spec_HeightOver.f HeightR
  rw [bnd (l01Code2 hl hd hl' hd')]
  by_cases h : IsP p ∧ Bal p l t d ∧ Bal p l' t' d'
  · have hr : -6 ≤ l ∧ l ≤ 6 ∧ -6 ≤ l' ∧ l' ≤ 6 := by have h1 := h.2.1; have h2 := h.2.2; unfold Bal at h1 h2; omega
    simp only [h, and_self, if_true]
    rw [bnd l01End_ev]
    refine Ev.step (fun k => by rw [spec_HeightOver.j0]) ?_
    by_cases he : EndOk num den
    · simp only [he, decide_true, Bool.not_true, if_neg Bool.false_ne_true, if_true]
      by_cases hz : den = 0
      · rw [wrap_id (x := l' - l) (by omega) (by omega)]
        simp only [if_pos hz]; exact Ev.now _
      · simp only [if_neg hz]
        rw [bnd (l02Meet_ev h.1 h.2.1 he hz), bnd (l02Meet_ev h.1 h.2.2 he hz)]
        have t1 := turn_range h.1 h.2.1 he hz
        have t2 := turn_range h.1 h.2.2 he hz
        rw [wrap_id (x := 2 * turnL p l' t' d' num den) (by omega) (by omega), wrap_id (x := 2 * turnL p l t d num den) (by omega) (by omega), wrap_id (x := l' - 2 * turnL p l' t' d' num den) (by omega) (by omega),
          wrap_id (x := l - 2 * turnL p l t d num den) (by omega) (by omega), wrap_id (by omega) (by omega)]
        refine ev_some ?_
        have : l' - 2 * turnL p l' t' d' num den - (l - 2 * turnL p l t d num den) = l' - 2 * turnL p l' t' d' num den - l + 2 * turnL p l t d num den := by omega
        rw [this]
    · simp only [he, decide_false, Bool.not_false, if_true, if_false]; exact Ev.now _
  · simp only [h, if_false, if_neg (show ¬ (1 : Int) = 0 by omega)]
    refine Ev.step (fun k => by rw [spec_HeightOver.j0]) ?_
    simp only [if_true]; exact Ev.now _
def FnExactHeightOverPure : Prop := ∀ (a0 : Int) (a1_0 : Int) (a1_1 : Int) (a1_2 : Int) (a2_0 : Int) (a2_1 : Int) (a2_2 : Int) (a3_0 : Int) (a3_1 : Int), (Lit.int .i64 a0).wf = true → (Lit.int .i64 a1_0).wf = true → (Lit.int .i64 a1_1).wf = true → (Lit.int .i64 a1_2).wf = true → (Lit.int .i64 a2_0).wf = true → (Lit.int .i64 a2_1).wf = true → (Lit.int .i64 a2_2).wf = true → (Lit.int .i64 a3_0).wf = true → (Lit.int .i64 a3_1).wf = true → ∃ k, laws_FnExactHeightOver.f k a0 a1_0 a1_1 a1_2 a2_0 a2_1 a2_2 a3_0 a3_1 = some true
theorem FnExactHeightOver : FnExactHeightOverPure := by
  intro a0 a1 a2 a3 a4 a5 a6 a7 a8 w0 w1 w2 w3 w4 w5 w6 w7 w8
  refine Ev.rounds (g := fun k => laws_FnExactHeightOver.f k a0 a1 a2 a3 a4 a5 a6 a7 a8) ?_
  unfold laws_FnExactHeightOver.f
  simp only [laws_toBall.f, laws_toEnd.f, Option.bind_some]
  rw [bnd (specHeightOver_ev (wf_range w1) (wf_range w3) (wf_range w4) (wf_range w6)), bnd (implHeightOver_ev (wf_range w1) (wf_range w3) (wf_range w4) (wf_range w6))]
  simp only [if_true, Option.bind_some]
  exact Ev.now _

end Go.Proofs.Ytieajioobfkifaa.Pure

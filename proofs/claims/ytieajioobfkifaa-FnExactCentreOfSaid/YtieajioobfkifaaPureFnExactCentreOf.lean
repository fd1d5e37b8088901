/- CentreOf and the reference's CentreOf answer the same for every prime and every ball. No condition. -/
import Derived.Test.YtieajioobfkifaaPFnExactCentreOfx5
import Derived.Test.YtieajioobfkifaaMath
namespace Go.Proofs.Ytieajioobfkifaa.Pure
open Go.RowKit Go.Proofs.Ytieajioobfkifaa.PFnExactCentreOf Go.Proofs.YtieajioobfkifaaW.PrintWords Go.Proofs.YtieajioobfkifaaW.PrintLast Go.Proofs.YtieajioobfkifaaW.PrintMore Go.Proofs.Ytieajioobfkifaa.Math
set_option linter.unusedVariables false
set_option linter.unusedSimpArgs false
theorem isPrime_eq (p : Int) : impl_isPrime.f p = some (decide (IsP p)) := by
  unfold impl_isPrime.f IsP
  by_cases h2 : p = 2
  · subst h2; rfl
  by_cases h3 : p = 3
  · subst h3; rfl
  by_cases h5 : p = 5
  · subst h5; rfl
  by_cases h7 : p = 7
  · subst h7; rfl
  simp [h2, h3, h5, h7]
theorem l01Prime_eq (p : Int) : spec_l01Prime.f p = some (decide (IsP p)) := by
  unfold spec_l01Prime.f IsP
  by_cases h2 : p = 2
  · subst h2; rfl
  by_cases h3 : p = 3
  · subst h3; rfl
  by_cases h5 : p = 5
  · subst h5; rfl
  by_cases h7 : p = 7
  · subst h7; rfl
  simp [h2, h3, h5, h7]
theorem l01In_eq (n a b : Int) : spec_l01In.f n a b = some (decide (a ≤ n ∧ n ≤ b)) := by
  unfold spec_l01In.f
  by_cases h : n ≥ a
  · rw [if_pos h]; simp [h]
  · rw [if_neg h]; simp; omega
theorem isLevel_eq (n : Int) : impl_isLevel.f n = some (decide (-6 ≤ n ∧ n ≤ 6)) := by
  unfold impl_isLevel.f
  by_cases h : n ≥ (-6)
  · rw [if_pos h]; simp [h]
  · rw [if_neg h]; simp; omega
theorem power_l {p : Int} (h : IsP p) (n : Nat) (hn : p ^ n ≤ 9223372036854775807) (hn' : n ≤ 1000) : ∀ d i, i + d = n → Ev (fun k => impl_power.l0 k p (p ^ i) n i) (p ^ n) := by
  intro d
  induction d with
  | zero =>
    intro i hi
    obtain rfl : i = n := by omega
    refine Ev.step (fun k => by rw [impl_power.l0]) ?_
    simp only [if_neg (Int.lt_irrefl _)]
    exact Ev.now _
  | succ d ih =>
    intro i hi
    refine Ev.step (fun k => by rw [impl_power.l0]) ?_
    have h1 : (i : Int) < n := by omega
    have h2 := pow_pos' h (i + 1)
    have h3 := pow_mono h (m := i + 1) (n := n) (by omega)
    have e1 : wrap64 (p ^ i * p) = p ^ (i + 1) := by rw [← show p ^ (i + 1) = p ^ i * p from Int.pow_succ p i]; exact wrap_id (by omega) (by omega)
    have e2 : wrap64 ((i : Int) + 1) = ((i + 1 : Nat) : Int) := by rw [wrap_id (by omega) (by omega)]; omega
    simp only [if_pos h1, e1, e2]
    exact ih (i + 1) (by omega)
theorem power_big {p : Int} (h : IsP p) {n : Nat} (hn : p ^ n ≤ 9223372036854775807) (hn' : n ≤ 1000) : Ev (fun k => impl_power.f k p n) (p ^ n) := by
  unfold impl_power.f
  have := power_l h n hn hn' n 0 (by omega)
  rw [Int.pow_zero] at this
  exact this
theorem power_ev {p : Int} (h : IsP p) {n : Int} (hn : n ≤ 22) : Ev (fun k => impl_power.f k p n) (p ^ n.toNat) := by
  by_cases h0 : 0 ≤ n
  · have := power_big h (n := n.toNat) (by have := pow_le_22 h (n := n.toNat) (by omega); omega) (by omega)
    rw [Int.toNat_of_nonneg h0] at this
    exact this
  · unfold impl_power.f
    refine Ev.step (fun k => by rw [impl_power.l0]) ?_
    have e : n.toNat = 0 := by omega
    simp only [if_neg (show ¬ (0 : Int) < n by omega), e, Int.pow_zero]
    exact Ev.now _
/-- The power that lies in a number. -/
theorem power_any {p x : Int} (h : IsP p) (hx : x ≠ 0) (h0 : -9223372036854775807 ≤ x) (h1 : x ≤ 9223372036854775807) : Ev (fun k => impl_power.f k p (vl p x)) (p ^ vl p x) :=
  power_big h (by have := pow_vl_le h hx; omega) (by have := vl_le_62 h hx h0 h1; omega)
theorem l01Power_l {p : Int} (h : IsP p) : ∀ (d : Nat) (i : Nat), p ^ (i + d) ≤ 9223372036854775807 → i + d ≤ 1000 → Ev (fun k => spec_l01Power.l0 k p d (p ^ i)) (p ^ (i + d)) := by
  intro d
  induction d with
  | zero =>
    intro i _ _
    refine Ev.step (fun k => by rw [spec_l01Power.l0]) ?_
    simp only [if_neg (show ¬ ((0 : Nat) : Int) > 0 by omega)]
    exact Ev.now _
  | succ d ih =>
    intro i hi hi'
    refine Ev.step (fun k => by rw [spec_l01Power.l0]) ?_
    have h2 := pow_pos' h (i + 1)
    have h3 := pow_mono h (m := i + 1) (n := i + (d + 1)) (by omega)
    have e1 : wrap64 (p ^ i * p) = p ^ (i + 1) := by rw [← show p ^ (i + 1) = p ^ i * p from Int.pow_succ p i]; exact wrap_id (by omega) (by omega)
    have e2 : wrap64 (((d + 1 : Nat) : Int) - 1) = (d : Int) := by rw [wrap_id (by omega) (by omega)]; omega
    simp only [if_pos (show ((d + 1 : Nat) : Int) > 0 by omega), e1, e2]
    have e3 : i + (d + 1) = i + 1 + d := by omega
    rw [e3] at hi ⊢
    exact ih (i + 1) hi (by omega)
theorem l01Power_big {p : Int} (h : IsP p) {n : Nat} (hn : p ^ n ≤ 9223372036854775807) (hn' : n ≤ 1000) : Ev (fun k => spec_l01Power.f k p n) (p ^ n) := by
  unfold spec_l01Power.f
  have := l01Power_l h n 0 (by rw [Nat.zero_add]; exact hn) (by omega)
  rw [Int.pow_zero, Nat.zero_add] at this
  exact this
theorem l01Power_ev {p : Int} (h : IsP p) {n : Int} (hn : n ≤ 22) : Ev (fun k => spec_l01Power.f k p n) (p ^ n.toNat) := by
  by_cases h0 : 0 ≤ n
  · have := l01Power_big h (n := n.toNat) (by have := pow_le_22 h (n := n.toNat) (by omega); omega) (by omega)
    rw [Int.toNat_of_nonneg h0] at this
    exact this
  · unfold spec_l01Power.f
    refine Ev.step (fun k => by rw [spec_l01Power.l0]) ?_
    have e : n.toNat = 0 := by omega
    simp only [if_neg (show ¬ n > 0 by omega), e, Int.pow_zero]
    exact Ev.now _
theorem l01Power_any {p x : Int} (h : IsP p) (hx : x ≠ 0) (h0 : -9223372036854775807 ≤ x) (h1 : x ≤ 9223372036854775807) : Ev (fun k => spec_l01Power.f k p (vl p x)) (p ^ vl p x) :=
  l01Power_big h (by have := pow_vl_le h hx; omega) (by have := vl_le_62 h hx h0 h1; omega)
theorem IsBall_ev {p l t d : Int} (hl : -9223372036854775808 ≤ l ∧ l ≤ 9223372036854775807) (hd : -9223372036854775808 ≤ d ∧ d ≤ 9223372036854775807) :
    Ev (fun k => impl_IsBall.f k p l t d) (decide (IsP p ∧ Bal p l t d)) := by
  unfold impl_IsBall.f
  simp only [isPrime_eq, isLevel_eq, Option.bind_some]
  have bad : ∀ {c : Prop} [Decidable c], ¬ c → Ev (fun k => impl_IsBall.j0 k p true l t d) (decide c) := by
    intro c _ hc
    refine Ev.step (fun k => by rw [impl_IsBall.j0]) ?_
    simp only [if_true]
    exact ev_some (by simp [hc])
  by_cases hp : IsP p
  · simp only [hp, decide_true, if_true]
    by_cases h1 : -6 ≤ l ∧ l ≤ 6
    · simp only [h1, decide_true, if_true, and_self]
      by_cases h2 : d < 0
      · simp only [if_pos h2]
        exact bad (by unfold Bal; omega)
      · simp only [if_neg h2]
        by_cases h3 : d > 6
        · simp only [h3, decide_true]
          exact bad (by unfold Bal; omega)
        · simp only [h3, decide_false]
          refine Ev.step (fun k => by rw [impl_IsBall.j0]) ?_
          have e : wrap64 (l + d) = l + d := wrap_id (by omega) (by omega)
          simp only [if_neg Bool.false_ne_true, e]
          by_cases h4 : l + d ≤ 0
          · simp only [if_pos h4]
            by_cases h5 : t = 0
            · simp only [if_pos h5]
              exact ev_dec (by rw [Bal_low h4]; simp [hp, h5]; omega)
            · simp only [if_neg h5]
              exact ev_dec (by rw [Bal_low h4]; simp [h5])
          · simp only [if_neg h4]
            have hpw := pow_pos' hp (l + d).toNat
            by_cases h5 : t ≥ 0
            · simp only [if_pos h5]
              rw [bnd (power_ev hp (by omega))]
              by_cases h6 : t < p ^ (l + d).toNat
              · simp only [if_pos h6]
                by_cases h7 : d = 0
                · simp only [if_pos h7]
                  exact ev_dec (by rw [Bal_high h4]; simp [hp, h7] at h6 ⊢; omega)
                · simp only [if_neg h7, if_neg hp.ne]
                  refine ev_dec ?_
                  rw [Bal_high h4]
                  by_cases h8 : p ∣ t <;> simp [hp, h7, tmod_zero_iff, h8] <;> omega
              · simp only [if_neg h6]
                exact ev_dec (by rw [Bal_high h4]; simp [hp]; omega)
            · simp only [if_neg h5]
              exact ev_dec (by rw [Bal_high h4]; simp [hp]; omega)
    · simp only [h1, decide_false, if_neg Bool.false_ne_true]
      exact bad (by unfold Bal; omega)
  · simp only [hp, decide_false, if_neg Bool.false_ne_true]
    exact bad (by simp)
theorem l01Is_ev {p l t d : Int} (hl : -9223372036854775808 ≤ l ∧ l ≤ 9223372036854775807) (hd : -9223372036854775808 ≤ d ∧ d ≤ 9223372036854775807) :
    Ev (fun k => spec_l01Is.f k p l t d) (decide (IsP p ∧ Bal p l t d)) := by
  unfold spec_l01Is.f
  simp only [l01Prime_eq, l01In_eq, Option.bind_some]
  have bad : ∀ {c : Prop} [Decidable c], ¬ c → Ev (fun k => spec_l01Is.j0 k p true l t d) (decide c) := by
    intro c _ hc
    refine Ev.step (fun k => by rw [spec_l01Is.j0]) ?_
    simp only [if_true]
    exact ev_some (by simp [hc])
  by_cases hp : IsP p
  · simp only [hp, decide_true, if_true]
    by_cases h1 : -6 ≤ l ∧ l ≤ 6
    · simp only [h1, decide_true, if_true, and_self]
      by_cases h2 : 0 ≤ d ∧ d ≤ 6
      · simp only [h2, decide_true, and_self, Bool.not_true]
        refine Ev.step (fun k => by rw [spec_l01Is.j0]) ?_
        have e : wrap64 (l + d) = l + d := wrap_id (by omega) (by omega)
        simp only [if_neg Bool.false_ne_true, e]
        by_cases h4 : l + d ≤ 0
        · simp only [if_pos h4]
          by_cases h5 : t = 0
          · simp only [if_pos h5]
            exact ev_dec (by rw [Bal_low h4]; simp [hp, h5]; omega)
          · simp only [if_neg h5]
            exact ev_dec (by rw [Bal_low h4]; simp [h5])
        · simp only [if_neg h4]
          have hpw := pow_pos' hp (l + d).toNat
          have hpw2 := pow_le_22 hp (n := (l + d).toNat) (by omega)
          rw [bnd (l01Power_ev hp (by omega))]
          have e2 : wrap64 (p ^ (l + d).toNat - 1) = p ^ (l + d).toNat - 1 := wrap_id (by omega) (by omega)
          simp only [l01In_eq, Option.bind_some, e2]
          by_cases h6 : 0 ≤ t ∧ t ≤ p ^ (l + d).toNat - 1
          · simp only [h6, decide_true, if_true, and_self]
            by_cases h7 : d = 0
            · simp only [if_pos h7]
              exact ev_dec (by rw [Bal_high h4]; simp [hp, h7] at h6 ⊢; omega)
            · simp only [if_neg h7, if_neg hp.ne]
              refine ev_dec ?_
              rw [Bal_high h4]
              by_cases h8 : p ∣ t <;> simp [hp, h7, tmod_zero_iff, h8] <;> omega
          · simp only [h6, decide_false, if_neg Bool.false_ne_true]
            exact ev_dec (by rw [Bal_high h4]; simp [hp]; omega)
      · simp only [h2, decide_false, Bool.not_false]
        exact bad (by unfold Bal; omega)
    · simp only [h1, decide_false, if_neg Bool.false_ne_true]
      exact bad (by unfold Bal; omega)
  · simp only [hp, decide_false, if_neg Bool.false_ne_true]
    exact bad (by simp)
def BallOk (p : Int) (b : S26) : Prop := Bal p b.f0 b.f1 b.f2
instance (p : Int) (b : S26) : Decidable (BallOk p b) := by unfold BallOk; infer_instance
def BallWf (b : S26) : Prop := (-9223372036854775808 ≤ b.f0 ∧ b.f0 ≤ 9223372036854775807) ∧ (-9223372036854775808 ≤ b.f2 ∧ b.f2 ≤ 9223372036854775807)
theorem rd_ball_at (pre : List S26) (b : S26) (ys : List S26) : rd_T26 (pre ++ b :: ys) (pre.length : Int) = b := by
  unfold rd_T26
  simp [List.getD_eq_getElem?_getD]
theorem l01Code_l {p : Int} (hp : IsP p) : ∀ (ys pre : List S26), (pre ++ ys).length ≤ 1000 → (∀ b ∈ ys, BallWf b) → Ev (fun k => spec_l01Code.l0 k p (pre ++ ys) pre.length) (if ∀ b ∈ ys, BallOk p b then 0 else 1) := by
  intro ys
  induction ys with
  | nil =>
    intro pre _ _
    refine Ev.step (fun k => by rw [spec_l01Code.l0]) ?_
    simp only [List.append_nil, if_neg (Int.lt_irrefl _)]
    exact ev_some (by simp)
  | cons b ys ih =>
    intro pre hl hw
    refine Ev.step (fun k => by rw [spec_l01Code.l0]) ?_
    have hl' : (pre ++ b :: ys).length = pre.length + (ys.length + 1) := by simp
    have h1 : (pre.length : Int) < ((pre ++ b :: ys).length : Int) := by omega
    simp only [if_pos h1, if_pos (show (0 : Int) ≤ (pre.length : Int) by omega), rd_ball_at]
    have hb := hw b (by simp)
    rw [bnd (l01Is_ev hb.1 hb.2)]
    by_cases hB : Bal p b.f0 b.f1 b.f2
    · simp only [hp, hB, and_self, decide_true, if_true]
      have e : wrap64 ((pre.length : Int) + 1) = ((pre ++ [b]).length : Int) := by rw [wrap_id (by omega) (by omega)]; simp
      have := ih (pre ++ [b]) (by simpa using hl) (fun c hc => hw c (by simp [hc]))
      rw [e]
      simp only [List.append_assoc, List.singleton_append] at this
      refine ev_eq this ?_
      have : (∀ c ∈ b :: ys, BallOk p c) ↔ (∀ c ∈ ys, BallOk p c) := by simp [BallOk, hB]
      simp only [this]
    · simp only [hp, hB, and_false, decide_false, if_neg Bool.false_ne_true]
      refine ev_some ?_
      rw [if_neg]
      intro hall
      exact hB (hall b (by simp))
theorem l01Code_ev {p : Int} {ys : List S26} (hl : ys.length ≤ 1000) (hw : ∀ b ∈ ys, BallWf b) : Ev (fun k => spec_l01Code.f k p ys) (if IsP p ∧ ∀ b ∈ ys, BallOk p b then 0 else 1) := by
  unfold spec_l01Code.f
  simp only [l01Prime_eq, Option.bind_some]
  by_cases hp : IsP p
  · simp only [hp, decide_true, if_true, true_and]
    exact l01Code_l hp ys [] (by simpa using hl) hw
  · simp only [hp, decide_false, if_neg Bool.false_ne_true, false_and, if_false]
    exact Ev.now _
theorem l01Code1 {p l t d : Int} (hl : -9223372036854775808 ≤ l ∧ l ≤ 9223372036854775807) (hd : -9223372036854775808 ≤ d ∧ d ≤ 9223372036854775807) :
    Ev (fun k => spec_l01Code.f k p [⟨l, t, d⟩]) (if IsP p ∧ Bal p l t d then 0 else 1) := by
  refine ev_eq (l01Code_ev (by simp) (by intro b hb; simp at hb; subst hb; exact ⟨hl, hd⟩)) ?_
  simp [BallOk]
theorem l01Code2 {p l t d l' t' d' : Int} (hl : -9223372036854775808 ≤ l ∧ l ≤ 9223372036854775807) (hd : -9223372036854775808 ≤ d ∧ d ≤ 9223372036854775807)
    (hl' : -9223372036854775808 ≤ l' ∧ l' ≤ 9223372036854775807) (hd' : -9223372036854775808 ≤ d' ∧ d' ≤ 9223372036854775807) :
    Ev (fun k => spec_l01Code.f k p [⟨l, t, d⟩, ⟨l', t', d'⟩]) (if IsP p ∧ Bal p l t d ∧ Bal p l' t' d' then 0 else 1) := by
  refine ev_eq (l01Code_ev (by simp) (by intro b hb; simp at hb; rcases hb with rfl | rfl; exact ⟨hl, hd⟩; exact ⟨hl', hd'⟩)) ?_
  simp [BallOk]
theorem l01Code3 {p l t d l' t' d' l2 t2 d2 : Int} (hl : -9223372036854775808 ≤ l ∧ l ≤ 9223372036854775807) (hd : -9223372036854775808 ≤ d ∧ d ≤ 9223372036854775807)
    (hl' : -9223372036854775808 ≤ l' ∧ l' ≤ 9223372036854775807) (hd' : -9223372036854775808 ≤ d' ∧ d' ≤ 9223372036854775807)
    (hl2 : -9223372036854775808 ≤ l2 ∧ l2 ≤ 9223372036854775807) (hd2 : -9223372036854775808 ≤ d2 ∧ d2 ≤ 9223372036854775807) :
    Ev (fun k => spec_l01Code.f k p [⟨l, t, d⟩, ⟨l', t', d'⟩, ⟨l2, t2, d2⟩]) (if IsP p ∧ Bal p l t d ∧ Bal p l' t' d' ∧ Bal p l2 t2 d2 then 0 else 1) := by
  refine ev_eq (l01Code_ev (by simp) (by intro b hb; simp at hb; rcases hb with rfl | rfl | rfl; exact ⟨hl, hd⟩; exact ⟨hl', hd'⟩; exact ⟨hl2, hd2⟩)) ?_
  simp [BallOk]
theorem rd_at (pre : List Int) (b : Int) (ys : List Int) : rd (pre ++ b :: ys) (pre.length : Int) = b := by
  unfold rd
  simp [List.getD_eq_getElem?_getD]
theorem within_l {m : Int} (h0 : 0 ≤ m) (h1 : m ≤ 9223372036854775807) : ∀ (ys pre : List Int), (pre ++ ys).length ≤ 1000 → Ev (fun k => impl_within.l0 k m (pre ++ ys) ((pre ++ ys).length : Int) pre.length) (decide (∀ b ∈ ys, -m ≤ b ∧ b ≤ m)) := by
  intro ys
  induction ys with
  | nil =>
    intro pre _
    refine Ev.step (fun k => by rw [impl_within.l0]) ?_
    simp only [List.append_nil, if_neg (Int.lt_irrefl _)]
    exact ev_some (by simp)
  | cons b ys ih =>
    intro pre hl
    refine Ev.step (fun k => by rw [impl_within.l0]) ?_
    have hl' : (pre ++ b :: ys).length = pre.length + (ys.length + 1) := by simp
    have hlt : (pre.length : Int) < ((pre ++ b :: ys).length : Int) := by omega
    have em : wrap64 (-m) = -m := wrap_id (by omega) (by omega)
    simp only [if_pos hlt, if_pos (show (0 : Int) ≤ (pre.length : Int) by omega), rd_at, em]
    by_cases h2 : b < -m
    · simp only [if_pos h2]
      refine ev_some ?_
      symm
      rw [decide_eq_false_iff_not]
      intro hall
      have := hall b (by simp)
      omega
    · simp only [if_neg h2]
      by_cases h3 : b > m
      · simp only [if_pos h3]
        refine ev_some ?_
        symm
        rw [decide_eq_false_iff_not]
        intro hall
        have := hall b (by simp)
        omega
      · simp only [if_neg h3]
        have e : wrap64 ((pre.length : Int) + 1) = ((pre ++ [b]).length : Int) := by rw [wrap_id (by omega) (by omega)]; simp
        have := ih (pre ++ [b]) (by simpa using hl)
        rw [e]
        simp only [List.append_assoc, List.singleton_append] at this
        refine ev_eq this ?_
        have : (∀ c ∈ b :: ys, -m ≤ c ∧ c ≤ m) ↔ (∀ c ∈ ys, -m ≤ c ∧ c ≤ m) := by simp; omega
        simp only [this]
theorem within2 {m a b : Int} (h0 : 0 ≤ m) (h1 : m ≤ 9223372036854775807) : Ev (fun k => impl_within.f k m [a, b]) (decide ((-m ≤ a ∧ a ≤ m) ∧ -m ≤ b ∧ b ≤ m)) := by
  unfold impl_within.f
  refine ev_eq (within_l h0 h1 _ [] (by simp)) ?_
  simp
theorem within4 {m a b c d : Int} (h0 : 0 ≤ m) (h1 : m ≤ 9223372036854775807) : Ev (fun k => impl_within.f k m [a, b, c, d]) (decide ((-m ≤ a ∧ a ≤ m) ∧ (-m ≤ b ∧ b ≤ m) ∧ (-m ≤ c ∧ c ≤ m) ∧ -m ≤ d ∧ d ≤ m)) := by
  unfold impl_within.f
  refine ev_eq (within_l h0 h1 _ [] (by simp)) ?_
  simp
theorem gcd_l : ∀ (n : Nat) (a b : Int), b.natAbs ≤ n → a.natAbs ≤ 9223372036854775807 → b.natAbs ≤ 9223372036854775807 → Ev (fun k => impl_gcd.l0 k a b) (Int.gcd a b : Int) := by
  intro n
  induction n with
  | zero =>
    intro a b hb h0 h1
    obtain rfl : b = 0 := by omega
    refine Ev.step (fun k => by rw [impl_gcd.l0]) ?_
    simp only [if_true]
    refine ev_some ?_
    rw [wrap_id (by omega) (by omega), Int.gcd_zero]
    unfold mx; split <;> omega
  | succ n ih =>
    intro a b hb h0 h1
    refine Ev.step (fun k => by rw [impl_gcd.l0]) ?_
    by_cases hz : b = 0
    · subst hz
      simp only [if_true]
      refine ev_some ?_
      rw [wrap_id (by omega) (by omega), Int.gcd_zero]
      unfold mx; split <;> omega
    · simp only [if_neg hz]
      have hlt := tmod_natAbs_lt (a := a) hz
      refine ev_eq (ih b (Int.tmod a b) (by omega) (by omega) (by omega)) ?_
      rw [gcd_tmod]
theorem gcd_ev {a b : Int} (h0 : a.natAbs ≤ 9223372036854775807) (h1 : b.natAbs ≤ 9223372036854775807) : Ev (fun k => impl_gcd.f k a b) (Int.gcd a b : Int) := by
  unfold impl_gcd.f
  exact gcd_l b.natAbs a b (Nat.le_refl _) h0 h1
theorem l01Gcd_l : ∀ (n : Nat) (a b : Int), b.natAbs ≤ n → a.natAbs ≤ 9223372036854775807 → b.natAbs ≤ 9223372036854775807 → Ev (fun k => spec_l01Gcd.l0 k a b) (Int.gcd a b : Int) := by
  intro n
  induction n with
  | zero =>
    intro a b hb h0 h1
    obtain rfl : b = 0 := by omega
    refine Ev.step (fun k => by rw [spec_l01Gcd.l0]) ?_
    simp only [if_true]
    refine ev_some ?_
    rw [wrap_id (by omega) (by omega), Int.gcd_zero]
    unfold mx; split <;> omega
  | succ n ih =>
    intro a b hb h0 h1
    refine Ev.step (fun k => by rw [spec_l01Gcd.l0]) ?_
    by_cases hz : b = 0
    · subst hz
      simp only [if_true]
      refine ev_some ?_
      rw [wrap_id (by omega) (by omega), Int.gcd_zero]
      unfold mx; split <;> omega
    · simp only [if_neg hz]
      have hlt := tmod_natAbs_lt (a := a) hz
      refine ev_eq (ih b (Int.tmod a b) (by omega) (by omega) (by omega)) ?_
      rw [gcd_tmod]
theorem l01Gcd_ev {a b : Int} (h0 : a.natAbs ≤ 9223372036854775807) (h1 : b.natAbs ≤ 9223372036854775807) : Ev (fun k => spec_l01Gcd.f k a b) (Int.gcd a b : Int) := by
  unfold spec_l01Gcd.f
  exact l01Gcd_l b.natAbs a b (Nat.le_refl _) h0 h1
theorem IsEnd_ev {n d : Int} : Ev (fun k => impl_IsEnd.f k n d) (decide (EndOk n d)) := by
  unfold impl_IsEnd.f EndOk
  by_cases hd : d = 0
  · simp only [if_pos hd]
    exact ev_dec (by simp)
  · simp only [if_neg hd]
    rw [bnd (within2 (by omega) (by omega))]
    by_cases h1 : (-1000000 ≤ n ∧ n ≤ 1000000) ∧ -1000000 ≤ d ∧ d ≤ 1000000
    · simp only [h1, and_self, decide_true, if_true]
      by_cases h2 : d > 0
      · simp only [if_pos h2]
        rw [bnd (gcd_ev (by omega) (by omega))]
        exact ev_dec (by simp; omega)
      · simp only [if_neg h2]
        exact ev_dec (by simp; omega)
    · simp only [h1, decide_false, if_neg Bool.false_ne_true]
      exact ev_dec (by simp; omega)
theorem ed_wrap {n d : Int} (hd : d ≠ 0) (h0 : n.natAbs ≤ 9223372036854775807) (h1 : d.natAbs ≤ 9223372036854775807) : wrap64 (edN n d) = edN n d ∧ wrap64 (edD n d) = edD n d ∧ wrap64 (-edN n d) = -edN n d := by
  obtain ⟨a, b, c, e, _⟩ := ed_facts (n := n) hd
  exact ⟨wrap_id (by omega) (by omega), wrap_id (by omega) (by omega), wrap_id (by omega) (by omega)⟩
theorem endAt_ev {n d : Int} (h0 : n.natAbs ≤ 9223372036854775807) (h1 : d.natAbs ≤ 9223372036854775807) : Ev (fun k => impl_endAt.f k n d) (EAt n d) := by
  unfold impl_endAt.f EAt
  by_cases hd : d = 0
  · simp only [if_pos hd]; exact Ev.now _
  · simp only [if_neg hd]
    rw [bnd (gcd_ev h0 h1)]
    obtain ⟨w1, w2, _⟩ := ed_wrap (n := n) hd h0 h1
    obtain ⟨g0, _, _, g3, g4, _⟩ := edG_facts (n := n) hd
    by_cases hn : d < 0
    · have e : wrap64 (-(Int.gcd n d : Int)) = edG n d := by
        have : edG n d = -(Int.gcd n d : Int) := by unfold edG; rw [if_pos hn]
        rw [← this]; exact wrap_id (by omega) (by omega)
      simp only [if_pos hn, e, if_neg g0]
      have w1' : wrap64 (Int.tdiv n (edG n d)) = edN n d := w1
      have w2' : wrap64 (Int.tdiv d (edG n d)) = edD n d := w2
      simp only [w1', w2']
      rw [bnd IsEnd_ev]
      exact Ev.now _
    · have e : (Int.gcd n d : Int) = edG n d := by unfold edG; rw [if_neg hn]
      simp only [if_neg hn, e, if_neg g0]
      have w1' : wrap64 (Int.tdiv n (edG n d)) = edN n d := w1
      have w2' : wrap64 (Int.tdiv d (edG n d)) = edD n d := w2
      simp only [w1', w2']
      rw [bnd IsEnd_ev]
      exact Ev.now _
theorem mx_abs {x : Int} : mx x (-x) ≤ 1000000 ↔ -1000000 ≤ x ∧ x ≤ 1000000 := by unfold mx; split <;> omega
theorem l01EndOf_ev {n d : Int} (h0 : n.natAbs ≤ 9223372036854775807) (h1 : d.natAbs ≤ 9223372036854775807) : Ev (fun k => spec_l01EndOf.f k n d) (EAt n d) := by
  unfold spec_l01EndOf.f EAt
  by_cases hd : d = 0
  · simp only [if_pos hd]; exact Ev.now _
  · simp only [if_neg hd]
    rw [bnd (l01Gcd_ev h0 h1)]
    obtain ⟨w1, w2, w3⟩ := ed_wrap (n := n) hd h0 h1
    obtain ⟨g0, _, _, g3, g4, _⟩ := edG_facts (n := n) hd
    have hok := ed_ok (n := n) hd
    have w1' : wrap64 (Int.tdiv n (edG n d)) = edN n d := w1
    have w2' : wrap64 (Int.tdiv d (edG n d)) = edD n d := w2
    by_cases hn : d < 0
    · have e : wrap64 (-(Int.gcd n d : Int)) = edG n d := by
        have : edG n d = -(Int.gcd n d : Int) := by unfold edG; rw [if_pos hn]
        rw [← this]; exact wrap_id (by omega) (by omega)
      simp only [if_pos hn, e, if_neg g0, w1', w2', w3]
      by_cases h2 : edD n d ≤ 1000000
      · simp only [if_pos h2]
        refine ev_some ?_
        have : (mx (edN n d) (-edN n d) ≤ 1000000) ↔ EndOk (edN n d) (edD n d) := by rw [mx_abs, hok]; simp [h2]
        simp only [this]
      · simp only [if_neg h2]
        refine ev_some ?_
        have : ¬ EndOk (edN n d) (edD n d) := by rw [hok]; simp [h2]
        simp [this]
    · have e : (Int.gcd n d : Int) = edG n d := by unfold edG; rw [if_neg hn]
      simp only [if_neg hn, e, if_neg g0, w1', w2', w3]
      by_cases h2 : edD n d ≤ 1000000
      · simp only [if_pos h2]
        refine ev_some ?_
        have : (mx (edN n d) (-edN n d) ≤ 1000000) ↔ EndOk (edN n d) (edD n d) := by rw [mx_abs, hok]; simp [h2]
        simp only [this]
      · simp only [if_neg h2]
        refine ev_some ?_
        have : ¬ EndOk (edN n d) (edD n d) := by rw [hok]; simp [h2]
        simp [this]
def CentreR (p l t d : Int) : Int × Int × Int := if IsP p ∧ Bal p l t d then (if (EAt t (p ^ d.toNat)).2.2 = true then ((EAt t (p ^ d.toNat)).1, (EAt t (p ^ d.toNat)).2.1, 0) else (0, 0, 3)) else (0, 0, 1)
theorem implCentreOf_ev {p l t d : Int} (hl : -9223372036854775808 ≤ l ∧ l ≤ 9223372036854775807) (hd : -9223372036854775808 ≤ d ∧ d ≤ 9223372036854775807) : Ev (fun k => impl_CentreOf.f k p l t d) (CentreR p l t d) := by
  unfold impl_CentreOf.f CentreR
  rw [bnd (IsBall_ev hl hd)]
  by_cases h : IsP p ∧ Bal p l t d
  · have hs := h.2.small h.1
    have hr : 0 ≤ d ∧ d ≤ 6 := by have := h.2; unfold Bal at this; omega
    have h0 := pow_pos' h.1 d.toNat
    have h1 := pow_le_22 h.1 (n := d.toNat) (by omega)
    simp only [h, and_self, decide_true, if_true]
    rw [bnd (power_ev h.1 (by omega)), bnd (endAt_ev (by omega) (by omega))]
    unfold impl_fittedEnd.f
    by_cases h2 : (EAt t (p ^ d.toNat)).2.2 = true
    · simp only [if_pos h2, Option.bind_some]; exact Ev.now _
    · simp only [if_neg h2, Option.bind_some]; exact Ev.now _
  · simp only [h, decide_false, if_neg Bool.false_ne_true, if_false]; exact Ev.now _
theorem specCentreOf_ev {p l t d : Int} (hl : -9223372036854775808 ≤ l ∧ l ≤ 9223372036854775807) (hd : -9223372036854775808 ≤ d ∧ d ≤ 9223372036854775807) : Ev (fun k => spec_CentreOf.f k p l t d) (CentreR p l t d) := by
  unfold spec_CentreOf.f CentreR
  rw [bnd (l01Code1 hl hd)]
  by_cases h : IsP p ∧ Bal p l t d
  · have hs := h.2.small h.1
    have hr : 0 ≤ d ∧ d ≤ 6 := by have := h.2; unfold Bal at this; omega
    have h0 := pow_pos' h.1 d.toNat
    have h1 := pow_le_22 h.1 (n := d.toNat) (by omega)
    simp only [h, and_self, if_true]
    rw [bnd (l01Power_ev h.1 (by omega)), bnd (l01EndOf_ev (by omega) (by omega))]
    by_cases h2 : (EAt t (p ^ d.toNat)).2.2 = true
    · simp only [if_pos h2]; exact Ev.now _
    · simp only [if_neg h2]; exact Ev.now _
  · simp only [h, if_false, if_neg (show ¬ (1 : Int) = 0 by omega)]; exact Ev.now _
def FnExactCentreOfPure : Prop := ∀ (a0 : Int) (a1_0 : Int) (a1_1 : Int) (a1_2 : Int), (Lit.int .i64 a0).wf = true → (Lit.int .i64 a1_0).wf = true → (Lit.int .i64 a1_1).wf = true → (Lit.int .i64 a1_2).wf = true → ∃ k, laws_FnExactCentreOf.f k a0 a1_0 a1_1 a1_2 = some true
theorem FnExactCentreOf : FnExactCentreOfPure := by
  intro a0 a1 a2 a3 w0 w1 w2 w3
  refine Ev.rounds (g := fun k => laws_FnExactCentreOf.f k a0 a1 a2 a3) ?_
  unfold laws_FnExactCentreOf.f
  simp only [laws_toBall.f, Option.bind_some]
  rw [bnd (specCentreOf_ev (wf_range w1) (wf_range w3)), bnd (implCentreOf_ev (wf_range w1) (wf_range w3))]
  simp only [laws_eqEnd.f, if_true, Option.bind_some]
  exact Ev.now _

end Go.Proofs.Ytieajioobfkifaa.Pure

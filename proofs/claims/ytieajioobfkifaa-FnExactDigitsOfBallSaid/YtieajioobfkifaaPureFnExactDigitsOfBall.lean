/- DigitsOfBall and the reference's DigitsOfBall answer the same for every prime and every ball, in memory of their own. No condition. -/
import Derived.Test.YtieajioobfkifaaPFnExactDigitsOfBallx3
import Derived.Test.YtieajioobfkifaaMath
namespace Go.Proofs.Ytieajioobfkifaa.Pure
open Go.RowKit Go.Proofs.Ytieajioobfkifaa.PFnExactDigitsOfBall Go.Proofs.YtieajioobfkifaaW.PrintWords Go.Proofs.YtieajioobfkifaaW.PrintLast Go.Proofs.YtieajioobfkifaaW.PrintMore Go.Proofs.Ytieajioobfkifaa.Math
set_option linter.unusedVariables false
set_option linter.unusedSimpArgs false
theorem isPrime_eq (p : Int) : impl_isPrime.f p = some (decide (IsP p)) := by
  unfold impl_isPrime.f IsP
  by_cases h2 : p = 2
  · subst h2; rfl
  by_cases h3 : p = 3
  · subst h3; rfl
  by_cases h5 : p = 5
  · subst h5; rfl
  by_cases h7 : p = 7
  · subst h7; rfl
  simp [h2, h3, h5, h7]
theorem l01Prime_eq (p : Int) : spec_l01Prime.f p = some (decide (IsP p)) := by
  unfold spec_l01Prime.f IsP
  by_cases h2 : p = 2
  · subst h2; rfl
  by_cases h3 : p = 3
  · subst h3; rfl
  by_cases h5 : p = 5
  · subst h5; rfl
  by_cases h7 : p = 7
  · subst h7; rfl
  simp [h2, h3, h5, h7]
theorem l01In_eq (n a b : Int) : spec_l01In.f n a b = some (decide (a ≤ n ∧ n ≤ b)) := by
  unfold spec_l01In.f
  by_cases h : n ≥ a
  · rw [if_pos h]; simp [h]
  · rw [if_neg h]; simp; omega
theorem isLevel_eq (n : Int) : impl_isLevel.f n = some (decide (-6 ≤ n ∧ n ≤ 6)) := by
  unfold impl_isLevel.f
  by_cases h : n ≥ (-6)
  · rw [if_pos h]; simp [h]
  · rw [if_neg h]; simp; omega
theorem power_l {p : Int} (h : IsP p) (n : Nat) (hn : p ^ n ≤ 9223372036854775807) (hn' : n ≤ 1000) : ∀ d i, i + d = n → Ev (fun k => impl_power.l0 k p (p ^ i) n i) (p ^ n) := by
  intro d
  induction d with
  | zero =>
    intro i hi
    obtain rfl : i = n := by omega
    refine Ev.step (fun k => by rw [impl_power.l0]) ?_
    simp only [if_neg (Int.lt_irrefl _)]
    exact Ev.now _
  | succ d ih =>
    intro i hi
    refine Ev.step (fun k => by rw [impl_power.l0]) ?_
    have h1 : (i : Int) < n := by omega
    have h2 := pow_pos' h (i + 1)
    have h3 := pow_mono h (m := i + 1) (n := n) (by omega)
    have e1 : wrap64 (p ^ i * p) = p ^ (i + 1) := by rw [← show p ^ (i + 1) = p ^ i * p from Int.pow_succ p i]; exact wrap_id (by omega) (by omega)
    have e2 : wrap64 ((i : Int) + 1) = ((i + 1 : Nat) : Int) := by rw [wrap_id (by omega) (by omega)]; omega
    simp only [if_pos h1, e1, e2]
    exact ih (i + 1) (by omega)
theorem power_big {p : Int} (h : IsP p) {n : Nat} (hn : p ^ n ≤ 9223372036854775807) (hn' : n ≤ 1000) : Ev (fun k => impl_power.f k p n) (p ^ n) := by
  unfold impl_power.f
  have := power_l h n hn hn' n 0 (by omega)
  rw [Int.pow_zero] at this
  exact this
theorem power_ev {p : Int} (h : IsP p) {n : Int} (hn : n ≤ 22) : Ev (fun k => impl_power.f k p n) (p ^ n.toNat) := by
  by_cases h0 : 0 ≤ n
  · have := power_big h (n := n.toNat) (by have := pow_le_22 h (n := n.toNat) (by omega); omega) (by omega)
    rw [Int.toNat_of_nonneg h0] at this
    exact this
  · unfold impl_power.f
    refine Ev.step (fun k => by rw [impl_power.l0]) ?_
    have e : n.toNat = 0 := by omega
    simp only [if_neg (show ¬ (0 : Int) < n by omega), e, Int.pow_zero]
    exact Ev.now _
theorem l01Power_l {p : Int} (h : IsP p) : ∀ (d : Nat) (i : Nat), p ^ (i + d) ≤ 9223372036854775807 → i + d ≤ 1000 → Ev (fun k => spec_l01Power.l0 k p d (p ^ i)) (p ^ (i + d)) := by
  intro d
  induction d with
  | zero =>
    intro i _ _
    refine Ev.step (fun k => by rw [spec_l01Power.l0]) ?_
    simp only [if_neg (show ¬ ((0 : Nat) : Int) > 0 by omega)]
    exact Ev.now _
  | succ d ih =>
    intro i hi hi'
    refine Ev.step (fun k => by rw [spec_l01Power.l0]) ?_
    have h2 := pow_pos' h (i + 1)
    have h3 := pow_mono h (m := i + 1) (n := i + (d + 1)) (by omega)
    have e1 : wrap64 (p ^ i * p) = p ^ (i + 1) := by rw [← show p ^ (i + 1) = p ^ i * p from Int.pow_succ p i]; exact wrap_id (by omega) (by omega)
    have e2 : wrap64 (((d + 1 : Nat) : Int) - 1) = (d : Int) := by rw [wrap_id (by omega) (by omega)]; omega
    simp only [if_pos (show ((d + 1 : Nat) : Int) > 0 by omega), e1, e2]
    have e3 : i + (d + 1) = i + 1 + d := by omega
    rw [e3] at hi ⊢
    exact ih (i + 1) hi (by omega)
theorem l01Power_big {p : Int} (h : IsP p) {n : Nat} (hn : p ^ n ≤ 9223372036854775807) (hn' : n ≤ 1000) : Ev (fun k => spec_l01Power.f k p n) (p ^ n) := by
  unfold spec_l01Power.f
  have := l01Power_l h n 0 (by rw [Nat.zero_add]; exact hn) (by omega)
  rw [Int.pow_zero, Nat.zero_add] at this
  exact this
theorem l01Power_ev {p : Int} (h : IsP p) {n : Int} (hn : n ≤ 22) : Ev (fun k => spec_l01Power.f k p n) (p ^ n.toNat) := by
  by_cases h0 : 0 ≤ n
  · have := l01Power_big h (n := n.toNat) (by have := pow_le_22 h (n := n.toNat) (by omega); omega) (by omega)
    rw [Int.toNat_of_nonneg h0] at this
    exact this
  · unfold spec_l01Power.f
    refine Ev.step (fun k => by rw [spec_l01Power.l0]) ?_
    have e : n.toNat = 0 := by omega
    simp only [if_neg (show ¬ n > 0 by omega), e, Int.pow_zero]
    exact Ev.now _
theorem IsBall_ev {p l t d : Int} (hl : -9223372036854775808 ≤ l ∧ l ≤ 9223372036854775807) (hd : -9223372036854775808 ≤ d ∧ d ≤ 9223372036854775807) :
    Ev (fun k => impl_IsBall.f k p l t d) (decide (IsP p ∧ Bal p l t d)) := by
  unfold impl_IsBall.f
  simp only [isPrime_eq, isLevel_eq, Option.bind_some]
  have bad : ∀ {c : Prop} [Decidable c], ¬ c → Ev (fun k => impl_IsBall.j0 k p true l t d) (decide c) := by
    intro c _ hc
    refine Ev.step (fun k => by rw [impl_IsBall.j0]) ?_
    simp only [if_true]
    exact ev_some (by simp [hc])
  by_cases hp : IsP p
  · simp only [hp, decide_true, if_true]
    by_cases h1 : -6 ≤ l ∧ l ≤ 6
    · simp only [h1, decide_true, if_true, and_self]
      by_cases h2 : d < 0
      · simp only [if_pos h2]
        exact bad (by unfold Bal; omega)
      · simp only [if_neg h2]
        by_cases h3 : d > 6
        · simp only [h3, decide_true]
          exact bad (by unfold Bal; omega)
        · simp only [h3, decide_false]
          refine Ev.step (fun k => by rw [impl_IsBall.j0]) ?_
          have e : wrap64 (l + d) = l + d := wrap_id (by omega) (by omega)
          simp only [if_neg Bool.false_ne_true, e]
          by_cases h4 : l + d ≤ 0
          · simp only [if_pos h4]
            by_cases h5 : t = 0
            · simp only [if_pos h5]
              exact ev_dec (by rw [Bal_low h4]; simp [hp, h5]; omega)
            · simp only [if_neg h5]
              exact ev_dec (by rw [Bal_low h4]; simp [h5])
          · simp only [if_neg h4]
            have hpw := pow_pos' hp (l + d).toNat
            by_cases h5 : t ≥ 0
            · simp only [if_pos h5]
              rw [bnd (power_ev hp (by omega))]
              by_cases h6 : t < p ^ (l + d).toNat
              · simp only [if_pos h6]
                by_cases h7 : d = 0
                · simp only [if_pos h7]
                  exact ev_dec (by rw [Bal_high h4]; simp [hp, h7] at h6 ⊢; omega)
                · simp only [if_neg h7, if_neg hp.ne]
                  refine ev_dec ?_
                  rw [Bal_high h4]
                  by_cases h8 : p ∣ t <;> simp [hp, h7, tmod_zero_iff, h8] <;> omega
              · simp only [if_neg h6]
                exact ev_dec (by rw [Bal_high h4]; simp [hp]; omega)
            · simp only [if_neg h5]
              exact ev_dec (by rw [Bal_high h4]; simp [hp]; omega)
    · simp only [h1, decide_false, if_neg Bool.false_ne_true]
      exact bad (by unfold Bal; omega)
  · simp only [hp, decide_false, if_neg Bool.false_ne_true]
    exact bad (by simp)
theorem l01Is_ev {p l t d : Int} (hl : -9223372036854775808 ≤ l ∧ l ≤ 9223372036854775807) (hd : -9223372036854775808 ≤ d ∧ d ≤ 9223372036854775807) :
    Ev (fun k => spec_l01Is.f k p l t d) (decide (IsP p ∧ Bal p l t d)) := by
  unfold spec_l01Is.f
  simp only [l01Prime_eq, l01In_eq, Option.bind_some]
  have bad : ∀ {c : Prop} [Decidable c], ¬ c → Ev (fun k => spec_l01Is.j0 k p true l t d) (decide c) := by
    intro c _ hc
    refine Ev.step (fun k => by rw [spec_l01Is.j0]) ?_
    simp only [if_true]
    exact ev_some (by simp [hc])
  by_cases hp : IsP p
  · simp only [hp, decide_true, if_true]
    by_cases h1 : -6 ≤ l ∧ l ≤ 6
    · simp only [h1, decide_true, if_true, and_self]
      by_cases h2 : 0 ≤ d ∧ d ≤ 6
      · simp only [h2, decide_true, and_self, Bool.not_true]
        refine Ev.step (fun k => by rw [spec_l01Is.j0]) ?_
        have e : wrap64 (l + d) = l + d := wrap_id (by omega) (by omega)
        simp only [if_neg Bool.false_ne_true, e]
        by_cases h4 : l + d ≤ 0
        · simp only [if_pos h4]
          by_cases h5 : t = 0
          · simp only [if_pos h5]
            exact ev_dec (by rw [Bal_low h4]; simp [hp, h5]; omega)
          · simp only [if_neg h5]
            exact ev_dec (by rw [Bal_low h4]; simp [h5])
        · simp only [if_neg h4]
          have hpw := pow_pos' hp (l + d).toNat
          have hpw2 := pow_le_22 hp (n := (l + d).toNat) (by omega)
          rw [bnd (l01Power_ev hp (by omega))]
          have e2 : wrap64 (p ^ (l + d).toNat - 1) = p ^ (l + d).toNat - 1 := wrap_id (by omega) (by omega)
          simp only [l01In_eq, Option.bind_some, e2]
          by_cases h6 : 0 ≤ t ∧ t ≤ p ^ (l + d).toNat - 1
          · simp only [h6, decide_true, if_true, and_self]
            by_cases h7 : d = 0
            · simp only [if_pos h7]
              exact ev_dec (by rw [Bal_high h4]; simp [hp, h7] at h6 ⊢; omega)
            · simp only [if_neg h7, if_neg hp.ne]
              refine ev_dec ?_
              rw [Bal_high h4]
              by_cases h8 : p ∣ t <;> simp [hp, h7, tmod_zero_iff, h8] <;> omega
          · simp only [h6, decide_false, if_neg Bool.false_ne_true]
            exact ev_dec (by rw [Bal_high h4]; simp [hp]; omega)
      · simp only [h2, decide_false, Bool.not_false]
        exact bad (by unfold Bal; omega)
    · simp only [h1, decide_false, if_neg Bool.false_ne_true]
      exact bad (by unfold Bal; omega)
  · simp only [hp, decide_false, if_neg Bool.false_ne_true]
    exact bad (by simp)
def BallOk (p : Int) (b : S26) : Prop := Bal p b.f0 b.f1 b.f2
instance (p : Int) (b : S26) : Decidable (BallOk p b) := by unfold BallOk; infer_instance
def BallWf (b : S26) : Prop := (-9223372036854775808 ≤ b.f0 ∧ b.f0 ≤ 9223372036854775807) ∧ (-9223372036854775808 ≤ b.f2 ∧ b.f2 ≤ 9223372036854775807)
theorem rd_ball_at (pre : List S26) (b : S26) (ys : List S26) : rd_T26 (pre ++ b :: ys) (pre.length : Int) = b := by
  unfold rd_T26
  simp [List.getD_eq_getElem?_getD]
theorem l01Code_l {p : Int} (hp : IsP p) : ∀ (ys pre : List S26), (pre ++ ys).length ≤ 1000 → (∀ b ∈ ys, BallWf b) → Ev (fun k => spec_l01Code.l0 k p (pre ++ ys) pre.length) (if ∀ b ∈ ys, BallOk p b then 0 else 1) := by
  intro ys
  induction ys with
  | nil =>
    intro pre _ _
    refine Ev.step (fun k => by rw [spec_l01Code.l0]) ?_
    simp only [List.append_nil, if_neg (Int.lt_irrefl _)]
    exact ev_some (by simp)
  | cons b ys ih =>
    intro pre hl hw
    refine Ev.step (fun k => by rw [spec_l01Code.l0]) ?_
    have hl' : (pre ++ b :: ys).length = pre.length + (ys.length + 1) := by simp
    have h1 : (pre.length : Int) < ((pre ++ b :: ys).length : Int) := by omega
    simp only [if_pos h1, if_pos (show (0 : Int) ≤ (pre.length : Int) by omega), rd_ball_at]
    have hb := hw b (by simp)
    rw [bnd (l01Is_ev hb.1 hb.2)]
    by_cases hB : Bal p b.f0 b.f1 b.f2
    · simp only [hp, hB, and_self, decide_true, if_true]
      have e : wrap64 ((pre.length : Int) + 1) = ((pre ++ [b]).length : Int) := by rw [wrap_id (by omega) (by omega)]; simp
      have := ih (pre ++ [b]) (by simpa using hl) (fun c hc => hw c (by simp [hc]))
      rw [e]
      simp only [List.append_assoc, List.singleton_append] at this
      refine ev_eq this ?_
      have : (∀ c ∈ b :: ys, BallOk p c) ↔ (∀ c ∈ ys, BallOk p c) := by simp [BallOk, hB]
      simp only [this]
    · simp only [hp, hB, and_false, decide_false, if_neg Bool.false_ne_true]
      refine ev_some ?_
      rw [if_neg]
      intro hall
      exact hB (hall b (by simp))
theorem l01Code_ev {p : Int} {ys : List S26} (hl : ys.length ≤ 1000) (hw : ∀ b ∈ ys, BallWf b) : Ev (fun k => spec_l01Code.f k p ys) (if IsP p ∧ ∀ b ∈ ys, BallOk p b then 0 else 1) := by
  unfold spec_l01Code.f
  simp only [l01Prime_eq, Option.bind_some]
  by_cases hp : IsP p
  · simp only [hp, decide_true, if_true, true_and]
    exact l01Code_l hp ys [] (by simpa using hl) hw
  · simp only [hp, decide_false, if_neg Bool.false_ne_true, false_and, if_false]
    exact Ev.now _
theorem l01Code1 {p l t d : Int} (hl : -9223372036854775808 ≤ l ∧ l ≤ 9223372036854775807) (hd : -9223372036854775808 ≤ d ∧ d ≤ 9223372036854775807) :
    Ev (fun k => spec_l01Code.f k p [⟨l, t, d⟩]) (if IsP p ∧ Bal p l t d then 0 else 1) := by
  refine ev_eq (l01Code_ev (by simp) (by intro b hb; simp at hb; subst hb; exact ⟨hl, hd⟩)) ?_
  simp [BallOk]
theorem rd_at (pre : List Int) (b : Int) (ys : List Int) : rd (pre ++ b :: ys) (pre.length : Int) = b := by
  unfold rd
  simp [List.getD_eq_getElem?_getD]
theorem eqInt_l (l : List Int) (hl : l.length ≤ 1000000) : ∀ d i : Nat, i + d = l.length → Ev (fun k => laws_eqInt64S.l0 k l l i) true := by
  intro d
  induction d with
  | zero =>
    intro i hi
    refine Ev.step (fun k => by rw [laws_eqInt64S.l0]) ?_
    simp only [if_neg (show ¬ (i : Int) < (l.length : Int) by omega)]
    exact Ev.now _
  | succ d ih =>
    intro i hi
    refine Ev.step (fun k => by rw [laws_eqInt64S.l0]) ?_
    have e : wrap64 ((i : Int) + 1) = ((i + 1 : Nat) : Int) := by rw [wrap_id (by omega) (by omega)]; omega
    simp only [if_pos (show (i : Int) < (l.length : Int) by omega), if_pos (show (0 : Int) ≤ i by omega), if_true, e]
    exact ih (i + 1) (by omega)
theorem eqInt_ev (l : List Int) (hl : l.length ≤ 1000000) : Ev (fun k => laws_eqInt64S.f k l l) true := by
  unfold laws_eqInt64S.f
  simp only [if_true]
  exact eqInt_l l hl l.length 0 (by omega)
def ups (a : Int) : Nat → List Int
  | 0 => []
  | n + 1 => a :: ups (a + 1) n
theorem ups_length (a : Int) (n : Nat) : (ups a n).length = n := by
  induction n generalizing a with
  | zero => rfl
  | succ n ih => simp [ups, ih]
theorem set_at (pre : List Int) (b c : Int) (ys : List Int) : (pre ++ b :: ys).set (pre.length : Int).toNat c = pre ++ c :: ys := by
  simp
theorem markInt_l : ∀ (ys pre : List Int) (a : Int), (pre ++ ys).length ≤ 1000000 → 0 ≤ a → a + ys.length ≤ 1000000000 → Ev (fun k => laws_markInt64S.l0 k (pre ++ ys) a pre.length) (a + ys.length, pre ++ ups a ys.length) := by
  intro ys
  induction ys with
  | nil =>
    intro pre a hl h0 h1
    refine Ev.step (fun k => by rw [laws_markInt64S.l0]) ?_
    simp only [List.append_nil, if_neg (Int.lt_irrefl _)]
    exact ev_some (by simp [ups])
  | cons b ys ih =>
    intro pre a hl h0 h1
    refine Ev.step (fun k => by rw [laws_markInt64S.l0]) ?_
    have hl' : (pre ++ b :: ys).length = pre.length + (ys.length + 1) := by simp
    have hlt : (pre.length : Int) < ((pre ++ b :: ys).length : Int) := by omega
    rw [List.length_cons] at h1
    have e1 : wrap64 (a + 1) = a + 1 := wrap_id (by omega) (by omega)
    have e2 : wrap64 ((pre.length : Int) + 1) = ((pre ++ [a]).length : Int) := by rw [wrap_id (by omega) (by omega)]; simp
    simp only [if_pos hlt, if_pos (show (0 : Int) ≤ (pre.length : Int) by omega), set_at, e1, e2]
    have := ih (pre ++ [a]) (a + 1) (by simpa using hl) (by omega) (by omega)
    simp only [List.append_assoc, List.singleton_append] at this
    refine ev_eq this ?_
    simp [ups]
    omega
theorem markInt_ev {ys : List Int} {a : Int} (hl : ys.length ≤ 1000000) (h0 : 0 ≤ a) (h1 : a ≤ 1000000) : Ev (fun k => laws_markInt64S.f k ys a) (a + ys.length, ups a ys.length) := by
  unfold laws_markInt64S.f
  exact markInt_l ys [] a (by simpa using hl) h0 (by omega)
theorem heldInt_l : ∀ (n : Nat) (pre : List Int) (a : Int), pre.length + n ≤ 1000000 → 0 ≤ a → a + n ≤ 1000000000 → Ev (fun k => laws_heldInt64S.l0 k (pre ++ ups a n) a pre.length) (a + n) := by
  intro n
  induction n with
  | zero =>
    intro pre a hl h0 h1
    refine Ev.step (fun k => by rw [laws_heldInt64S.l0]) ?_
    simp only [ups, List.append_nil, if_neg (Int.lt_irrefl _)]
    exact ev_some (by simp)
  | succ n ih =>
    intro pre a hl h0 h1
    refine Ev.step (fun k => by rw [laws_heldInt64S.l0]) ?_
    have hl' : (pre ++ ups a (n + 1)).length = pre.length + (n + 1) := by simp [ups_length]
    have hlt : (pre.length : Int) < ((pre ++ ups a (n + 1)).length : Int) := by omega
    have e1 : wrap64 (a + 1) = a + 1 := wrap_id (by omega) (by omega)
    have e2 : wrap64 ((pre.length : Int) + 1) = ((pre ++ [a]).length : Int) := by rw [wrap_id (by omega) (by omega)]; simp
    have hrd : rd (pre ++ ups a (n + 1)) (pre.length : Int) = a := rd_at pre a _
    simp only [if_pos hlt, if_pos (show (0 : Int) ≤ (pre.length : Int) by omega), hrd, if_true, e1, e2]
    have := ih (pre ++ [a]) (a + 1) (by simp; omega) (by omega) (by omega)
    simp only [List.append_assoc, List.singleton_append] at this
    refine ev_eq this ?_
    omega
theorem heldInt_ev {n : Nat} {a : Int} (hl : n ≤ 1000000) (h0 : 0 ≤ a) (h1 : a ≤ 1000000) : Ev (fun k => laws_heldInt64S.f k (ups a n) a) (a + n) := by
  unfold laws_heldInt64S.f
  exact heldInt_l n [] a (by simpa using hl) h0 (by omega)
def DigR (p l t d : Int) : List Int × Int := if IsP p ∧ Bal p l t d then (digs p t (l + d).toNat, 0) else ([], 1)
theorem digs_length (p t : Int) (n : Nat) : (digs p t n).length = n := by
  induction n generalizing t with
  | zero => rfl
  | succ n ih => simp [digs, ih]
theorem DigR_length (p l t d : Int) : (DigR p l t d).1.length ≤ 12 := by
  unfold DigR
  split
  · rename_i h
    have := h.2
    unfold Bal at this
    simp only [digs_length]; omega
  · simp
theorem digits_l {p : Int} (h : IsP p) (n : Nat) (hn : n ≤ 12) : ∀ (m i : Nat) (acc : List Int) (t : Int), i + m = n → acc.length + m ≤ 1000 → 0 ≤ t → t ≤ 13841287201 → Ev (fun k => impl_DigitsOfBall.l0 k p acc t n i) (acc ++ digs p t m, 0) := by
  intro m
  induction m with
  | zero =>
    intro i acc t hi ha h0 h1
    refine Ev.step (fun k => by rw [impl_DigitsOfBall.l0]) ?_
    simp only [if_neg (show ¬ (i : Int) < (n : Int) by omega), digs, List.append_nil]
    exact Ev.now _
  | succ m ih =>
    intro i acc t hi ha h0 h1
    refine Ev.step (fun k => by rw [impl_DigitsOfBall.l0]) ?_
    have hp := h.two_le
    have e1 : Int.tmod t p = t % p := Int.tmod_eq_emod_of_nonneg h0
    have hq := tdiv_bounds (n := t) (m := p)
    have e2 : Int.tdiv t p = t / p := Int.tdiv_eq_ediv_of_nonneg h0
    have hq0 : 0 ≤ t / p := Int.ediv_nonneg h0 (by omega)
    rw [e2] at hq
    have e3 : wrap64 (t / p) = t / p := wrap_id (by omega) (by omega)
    have e4 : wrap64 ((i : Int) + 1) = ((i + 1 : Nat) : Int) := by rw [wrap_id (by omega) (by omega)]; omega
    have hq9 : acc.length < 17592186044416 := by omega
    simp only [if_pos (show (i : Int) < (n : Int) by omega), if_neg h.ne, e1, e2, e3, e4]
    simp only [if_pos hq9]
    have hz : (acc ++ [t % p]).length + m ≤ 1000 := by rw [List.length_append, List.length_singleton]; omega
    have hy : t / p ≤ 13841287201 := by omega
    have hx := ih (i + 1) (acc ++ [t % p]) (t / p) (by omega) hz hq0 hy
    rw [show digs p t (m + 1) = t % p :: digs p (t / p) m from rfl]
    rw [List.append_assoc] at hx
    exact hx
theorem implDigits_ev {p l t d : Int} (hl : -9223372036854775808 ≤ l ∧ l ≤ 9223372036854775807) (hd : -9223372036854775808 ≤ d ∧ d ≤ 9223372036854775807) : Ev (fun k => impl_DigitsOfBall.f k p l t d) (DigR p l t d) := by
  unfold impl_DigitsOfBall.f DigR
  rw [bnd (IsBall_ev hl hd)]
  by_cases h : IsP p ∧ Bal p l t d
  · have hs := h.2.small h.1
    have hr : -6 ≤ l ∧ l ≤ 6 ∧ 0 ≤ d ∧ d ≤ 6 := by have := h.2; unfold Bal at this; omega
    have e : mx (wrap64 (l + d)) 0 = ((l + d).toNat : Int) := by rw [wrap_id (by omega) (by omega)]; unfold mx; split <;> omega
    simp only [h, and_self, decide_true, if_true, e]
    exact digits_l h.1 _ (by omega) _ 0 [] t (by omega) (by simp only [List.length_nil]; omega) hs.1 hs.2
  · simp only [h, decide_false, if_neg Bool.false_ne_true, if_false]; exact Ev.now _
theorem digits_s {p l d : Int} (t' : Int) (h : IsP p) (hr : -6 ≤ l ∧ l ≤ 6 ∧ 0 ≤ d ∧ d ≤ 6) : ∀ (m i : Nat) (acc : List Int) (t : Int), m = (l + d - i).toNat → i ≤ 12 → acc.length + m ≤ 1000 → 0 ≤ t → t ≤ 13841287201 → Ev (fun k => spec_DigitsOfBall.l0 k p acc t i l t' d) (acc ++ digs p t m, 0) := by
  have e0 : wrap64 (l + d) = l + d := wrap_id (by omega) (by omega)
  intro m
  induction m with
  | zero =>
    intro i acc t hi hi2 ha h0 h1
    refine Ev.step (fun k => by rw [spec_DigitsOfBall.l0]) ?_
    simp only [e0, if_neg (show ¬ (i : Int) < l + d by omega), digs, List.append_nil]
    exact Ev.now _
  | succ m ih =>
    intro i acc t hi hi2 ha h0 h1
    have hii : (i : Int) < l + d := by omega
    have hi3 : m = (l + d - ((i + 1 : Nat) : Int)).toNat := by omega
    have hi12 : i + 1 ≤ 12 := by omega
    have hz : (acc ++ [t % p]).length + m ≤ 1000 := by rw [List.length_append, List.length_singleton]; omega
    have hq9 : acc.length < 17592186044416 := Nat.lt_of_le_of_lt (Nat.le_trans (Nat.le_add_right _ _) ha) (by omega)
    clear hi
    refine Ev.step (fun k => by rw [spec_DigitsOfBall.l0]) ?_
    have hp := h.two_le
    have e1 : Int.tmod t p = t % p := Int.tmod_eq_emod_of_nonneg h0
    have hq := tdiv_bounds (n := t) (m := p)
    have e2 : Int.tdiv t p = t / p := Int.tdiv_eq_ediv_of_nonneg h0
    have hq0 : 0 ≤ t / p := Int.ediv_nonneg h0 (by omega)
    rw [e2] at hq
    have e3 : wrap64 (t / p) = t / p := wrap_id (by omega) (by omega)
    have e4 : wrap64 ((i : Int) + 1) = ((i + 1 : Nat) : Int) := by rw [wrap_id (by omega) (by omega)]; omega
    have hy : t / p ≤ 13841287201 := by clear hq9 hz ha; omega
    simp only [e0, if_pos hii, if_neg h.ne, e1, e2, e3, e4]
    simp only [if_pos hq9]
    have hx := ih (i + 1) (acc ++ [t % p]) (t / p) hi3 hi12 hz hq0 hy
    rw [show digs p t (m + 1) = t % p :: digs p (t / p) m from rfl]
    rw [List.append_assoc] at hx
    exact hx
theorem specDigits_ev {p l t d : Int} (hl : -9223372036854775808 ≤ l ∧ l ≤ 9223372036854775807) (hd : -9223372036854775808 ≤ d ∧ d ≤ 9223372036854775807) : Ev (fun k => spec_DigitsOfBall.f k p l t d) (DigR p l t d) := by
  unfold spec_DigitsOfBall.f DigR
  rw [bnd (l01Code1 hl hd)]
  by_cases h : IsP p ∧ Bal p l t d
  · have hs := h.2.small h.1
    have hr : -6 ≤ l ∧ l ≤ 6 ∧ 0 ≤ d ∧ d ≤ 6 := by have := h.2; unfold Bal at this; omega
    simp only [h, and_self, if_true]
    exact digits_s t h.1 hr _ 0 [] t (by omega) (by omega) (by simp only [List.length_nil]; omega) hs.1 hs.2
  · simp only [h, if_false, if_neg (show ¬ (1 : Int) = 0 by omega)]; exact Ev.now _
def FnExactDigitsOfBallPure : Prop := ∀ (a0 : Int) (a1_0 : Int) (a1_1 : Int) (a1_2 : Int), (Lit.int .i64 a0).wf = true → (Lit.int .i64 a1_0).wf = true → (Lit.int .i64 a1_1).wf = true → (Lit.int .i64 a1_2).wf = true → ∃ k, laws_FnExactDigitsOfBall.f k a0 a1_0 a1_1 a1_2 = some true
theorem FnExactDigitsOfBall : FnExactDigitsOfBallPure := by
  intro a0 a1 a2 a3 w0 w1 w2 w3
  refine Ev.rounds (g := fun k => laws_FnExactDigitsOfBall.f k a0 a1 a2 a3) ?_
  unfold laws_FnExactDigitsOfBall.f
  simp only [laws_toBall.f, Option.bind_some]
  have hd := implDigits_ev (p := a0) (t := a2) (wf_range w1) (wf_range w3)
  have hl := DigR_length a0 a1 a2 a3
  rw [bnd (specDigits_ev (wf_range w1) (wf_range w3)), bnd hd, bnd (eqInt_ev _ (by omega))]
  simp only [if_true, bne_self_eq_false]
  refine Ev.step (fun k => by rw [laws_FnExactDigitsOfBall.j0]) ?_
  simp only [if_neg Bool.false_ne_true, laws_toBall.f, Option.bind_some]
  rw [bnd (markInt_ev (by omega) (by omega) (by omega))]
  rw [bnd (heldInt_ev (by omega) (by omega) (by omega))]
  simp only [if_neg (show ¬ ((1 : Int) + ((DigR a0 a1 a2 a3).1.length : Int) < 0) by omega), if_true]
  rw [bnd hd, bnd (eqInt_ev _ (by omega))]
  simp only [if_true, bne_self_eq_false]
  refine Ev.step (fun k => by rw [laws_FnExactDigitsOfBall.j1]) ?_
  simp only [if_neg Bool.false_ne_true]
  rw [bnd (heldInt_ev (by omega) (by omega) (by omega))]
  simp only [if_neg (show ¬ ((1 : Int) + ((DigR a0 a1 a2 a3).1.length : Int) < 0) by omega), if_true]
  exact Ev.now _

end Go.Proofs.Ytieajioobfkifaa.Pure

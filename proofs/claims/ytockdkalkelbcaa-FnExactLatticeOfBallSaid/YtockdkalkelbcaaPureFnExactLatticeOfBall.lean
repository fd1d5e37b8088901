/- LatticeOfBall and the reference's LatticeOfBall answer the same for every prime and every ball. No condition. -/
import Derived.Test.YtockdkalkelbcaaPFnExactLatticeOfBallx2
import Derived.Test.YtockdkalkelbcaaMath
namespace Go.Proofs.Ytockdkalkelbcaa.Pure
open Go.RowKit Go.Proofs.Ytockdkalkelbcaa.PFnExactLatticeOfBall Go.Proofs.YtockdkalkelbcaaW.PrintWords Go.Proofs.YtockdkalkelbcaaW.PrintLast Go.Proofs.YtockdkalkelbcaaW.PrintMore Go.Proofs.Ytockdkalkelbcaa.Math
set_option linter.unusedVariables false
set_option linter.unusedSimpArgs false
theorem isPrime_eq (p : Int) : impl_isPrime.f p = some (decide (IsP p)) := by
  unfold impl_isPrime.f IsP
  by_cases h2 : p = 2
  · subst h2; rfl
  by_cases h3 : p = 3
  · subst h3; rfl
  by_cases h5 : p = 5
  · subst h5; rfl
  by_cases h7 : p = 7
  · subst h7; rfl
  simp [h2, h3, h5, h7]
theorem l01Prime_eq (p : Int) : spec_l01Prime.f p = some (decide (IsP p)) := by
  unfold spec_l01Prime.f IsP
  by_cases h2 : p = 2
  · subst h2; rfl
  by_cases h3 : p = 3
  · subst h3; rfl
  by_cases h5 : p = 5
  · subst h5; rfl
  by_cases h7 : p = 7
  · subst h7; rfl
  simp [h2, h3, h5, h7]
theorem l01In_eq (n a b : Int) : spec_l01In.f n a b = some (decide (a ≤ n ∧ n ≤ b)) := by
  unfold spec_l01In.f
  by_cases h : n ≥ a
  · rw [if_pos h]; simp [h]
  · rw [if_neg h]; simp; omega
theorem isLevel_eq (n : Int) : impl_isLevel.f n = some (decide (-6 ≤ n ∧ n ≤ 6)) := by
  unfold impl_isLevel.f
  by_cases h : n ≥ (-6)
  · rw [if_pos h]; simp [h]
  · rw [if_neg h]; simp; omega
theorem power_l {p : Int} (h : IsP p) (n : Nat) (hn : n ≤ 22) : ∀ d i, i + d = n → Ev (fun k => impl_power.l0 k p (p ^ i) n i) (p ^ n) := by
  intro d
  induction d with
  | zero =>
    intro i hi
    obtain rfl : i = n := by omega
    refine Ev.step (fun k => by rw [impl_power.l0]) ?_
    simp only [if_neg (Int.lt_irrefl _)]
    exact Ev.now _
  | succ d ih =>
    intro i hi
    refine Ev.step (fun k => by rw [impl_power.l0]) ?_
    have h1 : (i : Int) < n := by omega
    have h2 := pow_pos' h (i + 1)
    have h3 := pow_le_22 h (n := i + 1) (by omega)
    have e1 : wrap64 (p ^ i * p) = p ^ (i + 1) := by rw [← show p ^ (i + 1) = p ^ i * p from Int.pow_succ p i]; exact wrap_id (by omega) (by omega)
    have e2 : wrap64 ((i : Int) + 1) = ((i + 1 : Nat) : Int) := by rw [wrap_id (by omega) (by omega)]; omega
    simp only [if_pos h1, e1, e2]
    exact ih (i + 1) (by omega)
theorem power_ev {p : Int} (h : IsP p) {n : Int} (hn : n ≤ 22) : Ev (fun k => impl_power.f k p n) (p ^ n.toNat) := by
  unfold impl_power.f
  by_cases h0 : 0 ≤ n
  · have := power_l h n.toNat (by omega) n.toNat 0 (by omega)
    rw [Int.pow_zero, Int.toNat_of_nonneg h0] at this
    exact this
  · refine Ev.step (fun k => by rw [impl_power.l0]) ?_
    have e : n.toNat = 0 := by omega
    simp only [if_neg (show ¬ (0 : Int) < n by omega), e, Int.pow_zero]
    exact Ev.now _
theorem l01Power_l {p : Int} (h : IsP p) : ∀ (d : Nat) (i : Nat), i + d ≤ 22 → Ev (fun k => spec_l01Power.l0 k p d (p ^ i)) (p ^ (i + d)) := by
  intro d
  induction d with
  | zero =>
    intro i hi
    refine Ev.step (fun k => by rw [spec_l01Power.l0]) ?_
    simp only [if_neg (show ¬ ((0 : Nat) : Int) > 0 by omega)]
    exact Ev.now _
  | succ d ih =>
    intro i hi
    refine Ev.step (fun k => by rw [spec_l01Power.l0]) ?_
    have h2 := pow_pos' h (i + 1)
    have h3 := pow_le_22 h (n := i + 1) (by omega)
    have e1 : wrap64 (p ^ i * p) = p ^ (i + 1) := by rw [← show p ^ (i + 1) = p ^ i * p from Int.pow_succ p i]; exact wrap_id (by omega) (by omega)
    have e2 : wrap64 (((d + 1 : Nat) : Int) - 1) = (d : Int) := by rw [wrap_id (by omega) (by omega)]; omega
    simp only [if_pos (show ((d + 1 : Nat) : Int) > 0 by omega), e1, e2]
    have := ih (i + 1) (by omega)
    have e3 : i + (d + 1) = i + 1 + d := by omega
    rw [e3]
    exact this
theorem l01Power_ev {p : Int} (h : IsP p) {n : Int} (hn : n ≤ 22) : Ev (fun k => spec_l01Power.f k p n) (p ^ n.toNat) := by
  unfold spec_l01Power.f
  by_cases h0 : 0 ≤ n
  · have := l01Power_l h n.toNat 0 (by omega)
    rw [Int.pow_zero, Int.toNat_of_nonneg h0, Nat.zero_add] at this
    exact this
  · refine Ev.step (fun k => by rw [spec_l01Power.l0]) ?_
    have e : n.toNat = 0 := by omega
    simp only [if_neg (show ¬ n > 0 by omega), e, Int.pow_zero]
    exact Ev.now _
theorem IsBall_ev {p l t d : Int} (hl : -9223372036854775808 ≤ l ∧ l ≤ 9223372036854775807) (hd : -9223372036854775808 ≤ d ∧ d ≤ 9223372036854775807) :
    Ev (fun k => impl_IsBall.f k p l t d) (decide (IsP p ∧ Bal p l t d)) := by
  unfold impl_IsBall.f
  simp only [isPrime_eq, isLevel_eq, Option.bind_some]
  have bad : ∀ {c : Prop} [Decidable c], ¬ c → Ev (fun k => impl_IsBall.j0 k p true l t d) (decide c) := by
    intro c _ hc
    refine Ev.step (fun k => by rw [impl_IsBall.j0]) ?_
    simp only [if_true]
    exact ev_some (by simp [hc])
  by_cases hp : IsP p
  · simp only [hp, decide_true, if_true]
    by_cases h1 : -6 ≤ l ∧ l ≤ 6
    · simp only [h1, decide_true, if_true, and_self]
      by_cases h2 : d < 0
      · simp only [if_pos h2]
        exact bad (by unfold Bal; omega)
      · simp only [if_neg h2]
        by_cases h3 : d > 6
        · simp only [h3, decide_true]
          exact bad (by unfold Bal; omega)
        · simp only [h3, decide_false]
          refine Ev.step (fun k => by rw [impl_IsBall.j0]) ?_
          have e : wrap64 (l + d) = l + d := wrap_id (by omega) (by omega)
          simp only [if_neg Bool.false_ne_true, e]
          by_cases h4 : l + d ≤ 0
          · simp only [if_pos h4]
            by_cases h5 : t = 0
            · simp only [if_pos h5]
              exact ev_dec (by rw [Bal_low h4]; simp [hp, h5]; omega)
            · simp only [if_neg h5]
              exact ev_dec (by rw [Bal_low h4]; simp [h5])
          · simp only [if_neg h4]
            have hpw := pow_pos' hp (l + d).toNat
            by_cases h5 : t ≥ 0
            · simp only [if_pos h5]
              rw [bnd (power_ev hp (by omega))]
              by_cases h6 : t < p ^ (l + d).toNat
              · simp only [if_pos h6]
                by_cases h7 : d = 0
                · simp only [if_pos h7]
                  exact ev_dec (by rw [Bal_high h4]; simp [hp, h7] at h6 ⊢; omega)
                · simp only [if_neg h7, if_neg hp.ne]
                  refine ev_dec ?_
                  rw [Bal_high h4]
                  by_cases h8 : p ∣ t <;> simp [hp, h7, tmod_zero_iff, h8] <;> omega
              · simp only [if_neg h6]
                exact ev_dec (by rw [Bal_high h4]; simp [hp]; omega)
            · simp only [if_neg h5]
              exact ev_dec (by rw [Bal_high h4]; simp [hp]; omega)
    · simp only [h1, decide_false, if_neg Bool.false_ne_true]
      exact bad (by unfold Bal; omega)
  · simp only [hp, decide_false, if_neg Bool.false_ne_true]
    exact bad (by simp)
theorem l01Is_ev {p l t d : Int} (hl : -9223372036854775808 ≤ l ∧ l ≤ 9223372036854775807) (hd : -9223372036854775808 ≤ d ∧ d ≤ 9223372036854775807) :
    Ev (fun k => spec_l01Is.f k p l t d) (decide (IsP p ∧ Bal p l t d)) := by
  unfold spec_l01Is.f
  simp only [l01Prime_eq, l01In_eq, Option.bind_some]
  have bad : ∀ {c : Prop} [Decidable c], ¬ c → Ev (fun k => spec_l01Is.j0 k p true l t d) (decide c) := by
    intro c _ hc
    refine Ev.step (fun k => by rw [spec_l01Is.j0]) ?_
    simp only [if_true]
    exact ev_some (by simp [hc])
  by_cases hp : IsP p
  · simp only [hp, decide_true, if_true]
    by_cases h1 : -6 ≤ l ∧ l ≤ 6
    · simp only [h1, decide_true, if_true, and_self]
      by_cases h2 : 0 ≤ d ∧ d ≤ 6
      · simp only [h2, decide_true, and_self, Bool.not_true]
        refine Ev.step (fun k => by rw [spec_l01Is.j0]) ?_
        have e : wrap64 (l + d) = l + d := wrap_id (by omega) (by omega)
        simp only [if_neg Bool.false_ne_true, e]
        by_cases h4 : l + d ≤ 0
        · simp only [if_pos h4]
          by_cases h5 : t = 0
          · simp only [if_pos h5]
            exact ev_dec (by rw [Bal_low h4]; simp [hp, h5]; omega)
          · simp only [if_neg h5]
            exact ev_dec (by rw [Bal_low h4]; simp [h5])
        · simp only [if_neg h4]
          have hpw := pow_pos' hp (l + d).toNat
          have hpw2 := pow_le_22 hp (n := (l + d).toNat) (by omega)
          rw [bnd (l01Power_ev hp (by omega))]
          have e2 : wrap64 (p ^ (l + d).toNat - 1) = p ^ (l + d).toNat - 1 := wrap_id (by omega) (by omega)
          simp only [l01In_eq, Option.bind_some, e2]
          by_cases h6 : 0 ≤ t ∧ t ≤ p ^ (l + d).toNat - 1
          · simp only [h6, decide_true, if_true, and_self]
            by_cases h7 : d = 0
            · simp only [if_pos h7]
              exact ev_dec (by rw [Bal_high h4]; simp [hp, h7] at h6 ⊢; omega)
            · simp only [if_neg h7, if_neg hp.ne]
              refine ev_dec ?_
              rw [Bal_high h4]
              by_cases h8 : p ∣ t <;> simp [hp, h7, tmod_zero_iff, h8] <;> omega
          · simp only [h6, decide_false, if_neg Bool.false_ne_true]
            exact ev_dec (by rw [Bal_high h4]; simp [hp]; omega)
      · simp only [h2, decide_false, Bool.not_false]
        exact bad (by unfold Bal; omega)
    · simp only [h1, decide_false, if_neg Bool.false_ne_true]
      exact bad (by unfold Bal; omega)
  · simp only [hp, decide_false, if_neg Bool.false_ne_true]
    exact bad (by simp)
def BallOk (p : Int) (b : S41) : Prop := Bal p b.f0 b.f1 b.f2
instance (p : Int) (b : S41) : Decidable (BallOk p b) := by unfold BallOk; infer_instance
def BallWf (b : S41) : Prop := (-9223372036854775808 ≤ b.f0 ∧ b.f0 ≤ 9223372036854775807) ∧ (-9223372036854775808 ≤ b.f2 ∧ b.f2 ≤ 9223372036854775807)
theorem rd_ball_at (pre : List S41) (b : S41) (ys : List S41) : rd_T41 (pre ++ b :: ys) (pre.length : Int) = b := by
  unfold rd_T41
  simp [List.getD_eq_getElem?_getD]
theorem l01Code_l {p : Int} (hp : IsP p) : ∀ (ys pre : List S41), (pre ++ ys).length ≤ 1000 → (∀ b ∈ ys, BallWf b) → Ev (fun k => spec_l01Code.l0 k p (pre ++ ys) pre.length) (if ∀ b ∈ ys, BallOk p b then 0 else 1) := by
  intro ys
  induction ys with
  | nil =>
    intro pre _ _
    refine Ev.step (fun k => by rw [spec_l01Code.l0]) ?_
    simp only [List.append_nil, if_neg (Int.lt_irrefl _)]
    exact ev_some (by simp)
  | cons b ys ih =>
    intro pre hl hw
    refine Ev.step (fun k => by rw [spec_l01Code.l0]) ?_
    have hl' : (pre ++ b :: ys).length = pre.length + (ys.length + 1) := by simp
    have h1 : (pre.length : Int) < ((pre ++ b :: ys).length : Int) := by omega
    simp only [if_pos h1, if_pos (show (0 : Int) ≤ (pre.length : Int) by omega), rd_ball_at]
    have hb := hw b (by simp)
    rw [bnd (l01Is_ev hb.1 hb.2)]
    by_cases hB : Bal p b.f0 b.f1 b.f2
    · simp only [hp, hB, and_self, decide_true, if_true]
      have e : wrap64 ((pre.length : Int) + 1) = ((pre ++ [b]).length : Int) := by rw [wrap_id (by omega) (by omega)]; simp
      have := ih (pre ++ [b]) (by simpa using hl) (fun c hc => hw c (by simp [hc]))
      rw [e]
      simp only [List.append_assoc, List.singleton_append] at this
      refine ev_eq this ?_
      have : (∀ c ∈ b :: ys, BallOk p c) ↔ (∀ c ∈ ys, BallOk p c) := by simp [BallOk, hB]
      simp only [this]
    · simp only [hp, hB, and_false, decide_false, if_neg Bool.false_ne_true]
      refine ev_some ?_
      rw [if_neg]
      intro hall
      exact hB (hall b (by simp))
theorem l01Code_ev {p : Int} {ys : List S41} (hl : ys.length ≤ 1000) (hw : ∀ b ∈ ys, BallWf b) : Ev (fun k => spec_l01Code.f k p ys) (if IsP p ∧ ∀ b ∈ ys, BallOk p b then 0 else 1) := by
  unfold spec_l01Code.f
  simp only [l01Prime_eq, Option.bind_some]
  by_cases hp : IsP p
  · simp only [hp, decide_true, if_true, true_and]
    exact l01Code_l hp ys [] (by simpa using hl) hw
  · simp only [hp, decide_false, if_neg Bool.false_ne_true, false_and, if_false]
    exact Ev.now _
theorem l01Code1 {p l t d : Int} (hl : -9223372036854775808 ≤ l ∧ l ≤ 9223372036854775807) (hd : -9223372036854775808 ≤ d ∧ d ≤ 9223372036854775807) :
    Ev (fun k => spec_l01Code.f k p [⟨l, t, d⟩]) (if IsP p ∧ Bal p l t d then 0 else 1) := by
  refine ev_eq (l01Code_ev (by simp) (by intro b hb; simp at hb; subst hb; exact ⟨hl, hd⟩)) ?_
  simp [BallOk]
theorem l01Code2 {p l t d l' t' d' : Int} (hl : -9223372036854775808 ≤ l ∧ l ≤ 9223372036854775807) (hd : -9223372036854775808 ≤ d ∧ d ≤ 9223372036854775807)
    (hl' : -9223372036854775808 ≤ l' ∧ l' ≤ 9223372036854775807) (hd' : -9223372036854775808 ≤ d' ∧ d' ≤ 9223372036854775807) :
    Ev (fun k => spec_l01Code.f k p [⟨l, t, d⟩, ⟨l', t', d'⟩]) (if IsP p ∧ Bal p l t d ∧ Bal p l' t' d' then 0 else 1) := by
  refine ev_eq (l01Code_ev (by simp) (by intro b hb; simp at hb; rcases hb with rfl | rfl; exact ⟨hl, hd⟩; exact ⟨hl', hd'⟩)) ?_
  simp [BallOk]
theorem l01Code3 {p l t d l' t' d' l2 t2 d2 : Int} (hl : -9223372036854775808 ≤ l ∧ l ≤ 9223372036854775807) (hd : -9223372036854775808 ≤ d ∧ d ≤ 9223372036854775807)
    (hl' : -9223372036854775808 ≤ l' ∧ l' ≤ 9223372036854775807) (hd' : -9223372036854775808 ≤ d' ∧ d' ≤ 9223372036854775807)
    (hl2 : -9223372036854775808 ≤ l2 ∧ l2 ≤ 9223372036854775807) (hd2 : -9223372036854775808 ≤ d2 ∧ d2 ≤ 9223372036854775807) :
    Ev (fun k => spec_l01Code.f k p [⟨l, t, d⟩, ⟨l', t', d'⟩, ⟨l2, t2, d2⟩]) (if IsP p ∧ Bal p l t d ∧ Bal p l' t' d' ∧ Bal p l2 t2 d2 then 0 else 1) := by
  refine ev_eq (l01Code_ev (by simp) (by intro b hb; simp at hb; rcases hb with rfl | rfl | rfl; exact ⟨hl, hd⟩; exact ⟨hl', hd'⟩; exact ⟨hl2, hd2⟩)) ?_
  simp [BallOk]
def lobD (l d : Int) : Int := if d < -l then -l else d
def LobR (p l t d : Int) : Int × Int × Int × Int := if IsP p ∧ Bal p l t d then (l + lobD l d, t, lobD l d, 0) else (0, 0, 0, 1)
theorem lob_mix {p l t d : Int} (hp : IsP p) (h : Bal p l t d) : wrap64 (t * p ^ (lobD l d - d).toNat) = t := by
  have hm := h.mark hp
  have e : t * p ^ (lobD l d - d).toNat = t := by
    unfold lobD
    by_cases hlt : d < -l
    · rw [Bal_low (by omega)] at h
      simp [h.2.2.2.2.1]
    · rw [if_neg hlt]; simp
  rw [e]
  have h6 := pow_le_22 hp (n := (l + 6).toNat) (by unfold Bal at h; omega)
  by_cases hlow : l + d ≤ 0
  · rw [Bal_low hlow] at h
    exact wrap_id (by omega) (by omega)
  · rw [Bal_high hlow] at h
    have h7 := pow_le_22 hp (n := (l + d).toNat) (by omega)
    exact wrap_id (by omega) (by omega)
theorem implLatticeOfBall_ev {p l t d : Int} (hl : -9223372036854775808 ≤ l ∧ l ≤ 9223372036854775807) (hd : -9223372036854775808 ≤ d ∧ d ≤ 9223372036854775807) : Ev (fun k => impl_LatticeOfBall.f k p l t d) (LobR p l t d) := by
  unfold impl_LatticeOfBall.f LobR
  rw [bnd (IsBall_ev hl hd)]
  by_cases h : IsP p ∧ Bal p l t d
  · have hr : -6 ≤ l ∧ l ≤ 6 ∧ 0 ≤ d ∧ d ≤ 6 := by have := h.2; unfold Bal at this; omega
    have e1 : wrap64 (-l) = -l := wrap_id (by omega) (by omega)
    have e2 : mx d (-l) = lobD l d := rfl
    have hb : d ≤ lobD l d ∧ lobD l d ≤ 6 ∧ -l ≤ lobD l d := by unfold lobD; split <;> omega
    have e3 : wrap64 (lobD l d - d) = lobD l d - d := wrap_id (by omega) (by omega)
    have e4 : wrap64 (l + lobD l d) = l + lobD l d := wrap_id (by omega) (by omega)
    simp only [h, and_self, decide_true, if_true, e1, e2, e3, e4]
    rw [bnd (power_ev h.1 (by omega))]
    simp only [lob_mix h.1 h.2, impl_form.f]
    simp only [if_neg (show ¬ l + lobD l d > 12 by omega), if_neg (show ¬ lobD l d > 12 by omega), Option.bind_some]
    exact Ev.now _
  · simp only [h, decide_false, if_neg Bool.false_ne_true, if_false]; exact Ev.now _
theorem specLatticeOfBall_ev {p l t d : Int} (hl : -9223372036854775808 ≤ l ∧ l ≤ 9223372036854775807) (hd : -9223372036854775808 ≤ d ∧ d ≤ 9223372036854775807) : Ev (fun k => spec_LatticeOfBall.f k p l t d) (LobR p l t d) := by
  unfold spec_LatticeOfBall.f LobR
  rw [bnd (l01Code1 hl hd)]
  by_cases h : IsP p ∧ Bal p l t d
  · have hr : -6 ≤ l ∧ l ≤ 6 ∧ 0 ≤ d ∧ d ≤ 6 := by have := h.2; unfold Bal at this; omega
    have e1 : wrap64 (-l) = -l := wrap_id (by omega) (by omega)
    have hb : d ≤ lobD l d ∧ lobD l d ≤ 6 ∧ -l ≤ lobD l d := by unfold lobD; split <;> omega
    have e2 : mx (mx d (-l)) 0 = lobD l d := by
      have : mx d (-l) = lobD l d := rfl
      rw [this]; unfold mx; rw [if_neg (by omega)]
    have e3 : wrap64 (lobD l d - d) = lobD l d - d := wrap_id (by omega) (by omega)
    have e4 : wrap64 (l + lobD l d) = l + lobD l d := wrap_id (by omega) (by omega)
    simp only [h, and_self, if_true]
    unfold spec_l03OfBall.f
    simp only [e1, e2, e3, e4, Option.bind_assoc, Option.bind_some]
    rw [bnd (l01Power_ev h.1 (by omega))]
    simp only [lob_mix h.1 h.2]
    exact Ev.now _
  · simp only [h, if_false, if_neg (show ¬ (1 : Int) = 0 by omega)]; exact Ev.now _
def FnExactLatticeOfBallPure : Prop := ∀ (a0 : Int) (a1_0 : Int) (a1_1 : Int) (a1_2 : Int), (Lit.int .i64 a0).wf = true → (Lit.int .i64 a1_0).wf = true → (Lit.int .i64 a1_1).wf = true → (Lit.int .i64 a1_2).wf = true → ∃ k, laws_FnExactLatticeOfBall.f k a0 a1_0 a1_1 a1_2 = some true
theorem FnExactLatticeOfBall : FnExactLatticeOfBallPure := by
  intro a0 a1 a2 a3 w0 w1 w2 w3
  refine Ev.rounds (g := fun k => laws_FnExactLatticeOfBall.f k a0 a1 a2 a3) ?_
  unfold laws_FnExactLatticeOfBall.f
  simp only [laws_toBall.f, Option.bind_some]
  rw [bnd (specLatticeOfBall_ev (wf_range w1) (wf_range w3)), bnd (implLatticeOfBall_ev (wf_range w1) (wf_range w3))]
  simp only [laws_eqLattice.f, if_true, Option.bind_some]
  exact Ev.now _

end Go.Proofs.Ytockdkalkelbcaa.Pure

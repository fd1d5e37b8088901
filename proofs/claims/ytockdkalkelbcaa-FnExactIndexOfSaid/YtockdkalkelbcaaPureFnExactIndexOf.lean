/- IndexOf and the reference's IndexOf answer the same for every prime and every form. No condition. -/
import Derived.Test.YtockdkalkelbcaaPFnExactIndexOfx3
import Derived.Test.YtockdkalkelbcaaMath
namespace Go.Proofs.Ytockdkalkelbcaa.Pure
open Go.RowKit Go.Proofs.Ytockdkalkelbcaa.PFnExactIndexOf Go.Proofs.YtockdkalkelbcaaW.PrintWords Go.Proofs.YtockdkalkelbcaaW.PrintLast Go.Proofs.YtockdkalkelbcaaW.PrintMore Go.Proofs.Ytockdkalkelbcaa.Math
set_option linter.unusedVariables false
set_option linter.unusedSimpArgs false
theorem isPrime_eq (p : Int) : impl_isPrime.f p = some (decide (IsP p)) := by
  unfold impl_isPrime.f IsP
  by_cases h2 : p = 2
  · subst h2; rfl
  by_cases h3 : p = 3
  · subst h3; rfl
  by_cases h5 : p = 5
  · subst h5; rfl
  by_cases h7 : p = 7
  · subst h7; rfl
  simp [h2, h3, h5, h7]
theorem l01Prime_eq (p : Int) : spec_l01Prime.f p = some (decide (IsP p)) := by
  unfold spec_l01Prime.f IsP
  by_cases h2 : p = 2
  · subst h2; rfl
  by_cases h3 : p = 3
  · subst h3; rfl
  by_cases h5 : p = 5
  · subst h5; rfl
  by_cases h7 : p = 7
  · subst h7; rfl
  simp [h2, h3, h5, h7]
theorem l01In_eq (n a b : Int) : spec_l01In.f n a b = some (decide (a ≤ n ∧ n ≤ b)) := by
  unfold spec_l01In.f
  by_cases h : n ≥ a
  · rw [if_pos h]; simp [h]
  · rw [if_neg h]; simp; omega
theorem power_l {p : Int} (h : IsP p) (n : Nat) (hn : n ≤ 22) : ∀ d i, i + d = n → Ev (fun k => impl_power.l0 k p (p ^ i) n i) (p ^ n) := by
  intro d
  induction d with
  | zero =>
    intro i hi
    obtain rfl : i = n := by omega
    refine Ev.step (fun k => by rw [impl_power.l0]) ?_
    simp only [if_neg (Int.lt_irrefl _)]
    exact Ev.now _
  | succ d ih =>
    intro i hi
    refine Ev.step (fun k => by rw [impl_power.l0]) ?_
    have h1 : (i : Int) < n := by omega
    have h2 := pow_pos' h (i + 1)
    have h3 := pow_le_22 h (n := i + 1) (by omega)
    have e1 : wrap64 (p ^ i * p) = p ^ (i + 1) := by rw [← show p ^ (i + 1) = p ^ i * p from Int.pow_succ p i]; exact wrap_id (by omega) (by omega)
    have e2 : wrap64 ((i : Int) + 1) = ((i + 1 : Nat) : Int) := by rw [wrap_id (by omega) (by omega)]; omega
    simp only [if_pos h1, e1, e2]
    exact ih (i + 1) (by omega)
theorem power_ev {p : Int} (h : IsP p) {n : Int} (hn : n ≤ 22) : Ev (fun k => impl_power.f k p n) (p ^ n.toNat) := by
  unfold impl_power.f
  by_cases h0 : 0 ≤ n
  · have := power_l h n.toNat (by omega) n.toNat 0 (by omega)
    rw [Int.pow_zero, Int.toNat_of_nonneg h0] at this
    exact this
  · refine Ev.step (fun k => by rw [impl_power.l0]) ?_
    have e : n.toNat = 0 := by omega
    simp only [if_neg (show ¬ (0 : Int) < n by omega), e, Int.pow_zero]
    exact Ev.now _
theorem l01Power_l {p : Int} (h : IsP p) : ∀ (d : Nat) (i : Nat), i + d ≤ 22 → Ev (fun k => spec_l01Power.l0 k p d (p ^ i)) (p ^ (i + d)) := by
  intro d
  induction d with
  | zero =>
    intro i hi
    refine Ev.step (fun k => by rw [spec_l01Power.l0]) ?_
    simp only [if_neg (show ¬ ((0 : Nat) : Int) > 0 by omega)]
    exact Ev.now _
  | succ d ih =>
    intro i hi
    refine Ev.step (fun k => by rw [spec_l01Power.l0]) ?_
    have h2 := pow_pos' h (i + 1)
    have h3 := pow_le_22 h (n := i + 1) (by omega)
    have e1 : wrap64 (p ^ i * p) = p ^ (i + 1) := by rw [← show p ^ (i + 1) = p ^ i * p from Int.pow_succ p i]; exact wrap_id (by omega) (by omega)
    have e2 : wrap64 (((d + 1 : Nat) : Int) - 1) = (d : Int) := by rw [wrap_id (by omega) (by omega)]; omega
    simp only [if_pos (show ((d + 1 : Nat) : Int) > 0 by omega), e1, e2]
    have := ih (i + 1) (by omega)
    have e3 : i + (d + 1) = i + 1 + d := by omega
    rw [e3]
    exact this
theorem l01Power_ev {p : Int} (h : IsP p) {n : Int} (hn : n ≤ 22) : Ev (fun k => spec_l01Power.f k p n) (p ^ n.toNat) := by
  unfold spec_l01Power.f
  by_cases h0 : 0 ≤ n
  · have := l01Power_l h n.toNat 0 (by omega)
    rw [Int.pow_zero, Int.toNat_of_nonneg h0, Nat.zero_add] at this
    exact this
  · refine Ev.step (fun k => by rw [spec_l01Power.l0]) ?_
    have e : n.toNat = 0 := by omega
    simp only [if_neg (show ¬ n > 0 by omega), e, Int.pow_zero]
    exact Ev.now _
theorem IsLattice_ev {p u m d : Int} :
    Ev (fun k => impl_IsLattice.f k p u m d) (decide (IsP p ∧ Lat p u m d)) := by
  unfold impl_IsLattice.f
  simp only [isPrime_eq, Option.bind_some]
  by_cases hp : IsP p
  · simp only [hp, decide_true, if_true]
    by_cases h1 : u ≥ 0
    · simp only [if_pos h1]
      by_cases h2 : u ≤ 12
      · simp only [if_pos h2]
        by_cases h3 : d ≥ 0
        · simp only [if_pos h3]
          by_cases h4 : d ≤ 12
          · simp only [if_pos h4]
            by_cases h5 : m ≥ 0
            · simp only [if_pos h5]
              rw [bnd (power_ev hp (by omega))]
              exact ev_dec (by unfold Lat; simp; omega)
            · simp only [if_neg h5]
              exact ev_dec (by unfold Lat; simp; omega)
          · simp only [if_neg h4]
            exact ev_dec (by unfold Lat; simp; omega)
        · simp only [if_neg h3]
          exact ev_dec (by unfold Lat; simp; omega)
      · simp only [if_neg h2]
        exact ev_dec (by unfold Lat; simp; omega)
    · simp only [if_neg h1]
      exact ev_dec (by unfold Lat; simp; omega)
  · simp only [hp, decide_false, if_neg Bool.false_ne_true]
    exact ev_dec (by simp)
theorem l03Is_ev {p u m d : Int} :
    Ev (fun k => spec_l03Is.f k p u m d) (decide (IsP p ∧ Lat p u m d)) := by
  unfold spec_l03Is.f
  simp only [l01Prime_eq, l01In_eq, Option.bind_some]
  have bad : ∀ {c : Prop} [Decidable c], ¬ c → Ev (fun k => spec_l03Is.j0 k p true u m d) (decide c) := by
    intro c _ hc
    refine Ev.step (fun k => by rw [spec_l03Is.j0]) ?_
    simp only [if_true]
    exact ev_some (by simp [hc])
  by_cases hp : IsP p
  · simp only [hp, decide_true, if_true]
    by_cases h1 : 0 ≤ u ∧ u ≤ 12
    · simp only [h1, decide_true, if_true, and_self]
      by_cases h2 : 0 ≤ d ∧ d ≤ 12
      · simp only [h2, decide_true, and_self, Bool.not_true]
        refine Ev.step (fun k => by rw [spec_l03Is.j0]) ?_
        simp only [if_neg Bool.false_ne_true]
        rw [bnd (l01Power_ev hp (by omega))]
        have hpw := pow_pos' hp u.toNat
        have hpw2 := pow_le_22 hp (n := u.toNat) (by omega)
        have e2 : wrap64 (p ^ u.toNat - 1) = p ^ u.toNat - 1 := wrap_id (by omega) (by omega)
        simp only [l01In_eq, Option.bind_some, e2]
        exact ev_dec (by unfold Lat; simp; omega)
      · simp only [h2, decide_false, Bool.not_false]
        exact bad (by unfold Lat; omega)
    · simp only [h1, decide_false, if_neg Bool.false_ne_true]
      exact bad (by unfold Lat; omega)
  · simp only [hp, decide_false, if_neg Bool.false_ne_true]
    exact bad (by simp)
def LatOk (p : Int) (b : S26) : Prop := Lat p b.f0 b.f1 b.f2
instance (p : Int) (b : S26) : Decidable (LatOk p b) := by unfold LatOk; infer_instance
theorem rd_lat_at (pre : List S26) (b : S26) (ys : List S26) : rd_T26 (pre ++ b :: ys) (pre.length : Int) = b := by
  unfold rd_T26
  simp [List.getD_eq_getElem?_getD]
theorem l03Code_l {p : Int} (hp : IsP p) : ∀ (ys pre : List S26), (pre ++ ys).length ≤ 1000 → Ev (fun k => spec_l03Code.l0 k p (pre ++ ys) pre.length) (if ∀ b ∈ ys, LatOk p b then 0 else 1) := by
  intro ys
  induction ys with
  | nil =>
    intro pre _
    refine Ev.step (fun k => by rw [spec_l03Code.l0]) ?_
    simp only [List.append_nil, if_neg (Int.lt_irrefl _)]
    exact ev_some (by simp)
  | cons b ys ih =>
    intro pre hl
    refine Ev.step (fun k => by rw [spec_l03Code.l0]) ?_
    have hl' : (pre ++ b :: ys).length = pre.length + (ys.length + 1) := by simp
    have h1 : (pre.length : Int) < ((pre ++ b :: ys).length : Int) := by omega
    simp only [if_pos h1, if_pos (show (0 : Int) ≤ (pre.length : Int) by omega), rd_lat_at]
    rw [bnd l03Is_ev]
    by_cases hB : Lat p b.f0 b.f1 b.f2
    · simp only [hp, hB, and_self, decide_true, if_true]
      have e : wrap64 ((pre.length : Int) + 1) = ((pre ++ [b]).length : Int) := by rw [wrap_id (by omega) (by omega)]; simp
      have := ih (pre ++ [b]) (by simpa using hl)
      rw [e]
      simp only [List.append_assoc, List.singleton_append] at this
      refine ev_eq this ?_
      have : (∀ c ∈ b :: ys, LatOk p c) ↔ (∀ c ∈ ys, LatOk p c) := by simp [LatOk, hB]
      simp only [this]
    · simp only [hp, hB, and_false, decide_false, if_neg Bool.false_ne_true]
      refine ev_some ?_
      rw [if_neg]
      intro hall
      exact hB (hall b (by simp))
theorem l03Code_ev {p : Int} {ys : List S26} (hl : ys.length ≤ 1000) : Ev (fun k => spec_l03Code.f k p ys) (if IsP p ∧ ∀ b ∈ ys, LatOk p b then 0 else 1) := by
  unfold spec_l03Code.f
  simp only [l01Prime_eq, Option.bind_some]
  by_cases hp : IsP p
  · simp only [hp, decide_true, if_true, true_and]
    exact l03Code_l hp ys [] (by simpa using hl)
  · simp only [hp, decide_false, if_neg Bool.false_ne_true, false_and, if_false]
    exact Ev.now _
theorem l03Code1 {p l t d : Int} : Ev (fun k => spec_l03Code.f k p [⟨l, t, d⟩]) (if IsP p ∧ Lat p l t d then 0 else 1) := by
  refine ev_eq (l03Code_ev (by simp)) ?_
  simp [LatOk]
theorem l03Code2 {p l t d l' t' d' : Int} : Ev (fun k => spec_l03Code.f k p [⟨l, t, d⟩, ⟨l', t', d'⟩]) (if IsP p ∧ Lat p l t d ∧ Lat p l' t' d' then 0 else 1) := by
  refine ev_eq (l03Code_ev (by simp)) ?_
  simp [LatOk]
def IndexOfR (p u m d : Int) : Int × Int := if IsP p ∧ Lat p u m d then (u + d, 0) else (0, 1)
theorem implIndexOf_ev {p u m d : Int} : Ev (fun k => impl_IndexOf.f k p u m d) (IndexOfR p u m d) := by
  unfold impl_IndexOf.f IndexOfR
  rw [bnd IsLattice_ev]
  by_cases h : IsP p ∧ Lat p u m d
  · have e : wrap64 (u + d) = u + d := wrap_id (by have := h.2; unfold Lat at this; omega) (by have := h.2; unfold Lat at this; omega)
    simp only [h, and_self, decide_true, if_true, e]
    exact Ev.now _
  · simp only [h, decide_false, if_neg Bool.false_ne_true, if_false]
    exact Ev.now _
theorem specIndexOf_ev {p u m d : Int} : Ev (fun k => spec_IndexOf.f k p u m d) (IndexOfR p u m d) := by
  unfold spec_IndexOf.f IndexOfR
  rw [bnd l03Code1]
  by_cases h : IsP p ∧ Lat p u m d
  · have e : wrap64 (u + d) = u + d := wrap_id (by have := h.2; unfold Lat at this; omega) (by have := h.2; unfold Lat at this; omega)
    simp only [h, and_self, if_true, e]
    exact Ev.now _
  · simp only [h, if_false, if_neg (show ¬ (1 : Int) = 0 by omega)]
    exact Ev.now _
def FnExactIndexOfPure : Prop := ∀ (a0 : Int) (a1_0 : Int) (a1_1 : Int) (a1_2 : Int), (Lit.int .i64 a0).wf = true → (Lit.int .i64 a1_0).wf = true → (Lit.int .i64 a1_1).wf = true → (Lit.int .i64 a1_2).wf = true → ∃ k, laws_FnExactIndexOf.f k a0 a1_0 a1_1 a1_2 = some true
theorem FnExactIndexOf : FnExactIndexOfPure := by
  intro a0 a1 a2 a3 w0 w1 w2 w3
  refine Ev.rounds (g := fun k => laws_FnExactIndexOf.f k a0 a1 a2 a3) ?_
  unfold laws_FnExactIndexOf.f
  simp only [laws_toLattice.f, Option.bind_some]
  rw [bnd specIndexOf_ev, bnd implIndexOf_ev]
  simp only [if_true]
  exact Ev.now _

end Go.Proofs.Ytockdkalkelbcaa.Pure

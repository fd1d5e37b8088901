/- IsEnd and the reference's IsEnd answer the same for every end. No condition. -/
import Derived.Test.YtockdkalkelbcaaPFnExactIsEndx1
import Derived.Test.YtockdkalkelbcaaMath
namespace Go.Proofs.Ytockdkalkelbcaa.Pure
open Go.RowKit Go.Proofs.Ytockdkalkelbcaa.PFnExactIsEnd Go.Proofs.YtockdkalkelbcaaW.PrintWords Go.Proofs.YtockdkalkelbcaaW.PrintLast Go.Proofs.YtockdkalkelbcaaW.PrintMore Go.Proofs.Ytockdkalkelbcaa.Math
set_option linter.unusedVariables false
set_option linter.unusedSimpArgs false
theorem l01In_eq (n a b : Int) : spec_l01In.f n a b = some (decide (a ≤ n ∧ n ≤ b)) := by
  unfold spec_l01In.f
  by_cases h : n ≥ a
  · rw [if_pos h]; simp [h]
  · rw [if_neg h]; simp; omega
theorem rd_at (pre : List Int) (b : Int) (ys : List Int) : rd (pre ++ b :: ys) (pre.length : Int) = b := by
  unfold rd
  simp [List.getD_eq_getElem?_getD]
theorem within_l {m : Int} (h0 : 0 ≤ m) (h1 : m ≤ 9223372036854775807) : ∀ (ys pre : List Int), (pre ++ ys).length ≤ 1000 → Ev (fun k => impl_within.l0 k m (pre ++ ys) ((pre ++ ys).length : Int) pre.length) (decide (∀ b ∈ ys, -m ≤ b ∧ b ≤ m)) := by
  intro ys
  induction ys with
  | nil =>
    intro pre _
    refine Ev.step (fun k => by rw [impl_within.l0]) ?_
    simp only [List.append_nil, if_neg (Int.lt_irrefl _)]
    exact ev_some (by simp)
  | cons b ys ih =>
    intro pre hl
    refine Ev.step (fun k => by rw [impl_within.l0]) ?_
    have hl' : (pre ++ b :: ys).length = pre.length + (ys.length + 1) := by simp
    have hlt : (pre.length : Int) < ((pre ++ b :: ys).length : Int) := by omega
    have em : wrap64 (-m) = -m := wrap_id (by omega) (by omega)
    simp only [if_pos hlt, if_pos (show (0 : Int) ≤ (pre.length : Int) by omega), rd_at, em]
    by_cases h2 : b < -m
    · simp only [if_pos h2]
      refine ev_some ?_
      symm
      rw [decide_eq_false_iff_not]
      intro hall
      have := hall b (by simp)
      omega
    · simp only [if_neg h2]
      by_cases h3 : b > m
      · simp only [if_pos h3]
        refine ev_some ?_
        symm
        rw [decide_eq_false_iff_not]
        intro hall
        have := hall b (by simp)
        omega
      · simp only [if_neg h3]
        have e : wrap64 ((pre.length : Int) + 1) = ((pre ++ [b]).length : Int) := by rw [wrap_id (by omega) (by omega)]; simp
        have := ih (pre ++ [b]) (by simpa using hl)
        rw [e]
        simp only [List.append_assoc, List.singleton_append] at this
        refine ev_eq this ?_
        have : (∀ c ∈ b :: ys, -m ≤ c ∧ c ≤ m) ↔ (∀ c ∈ ys, -m ≤ c ∧ c ≤ m) := by simp; omega
        simp only [this]
theorem within2 {m a b : Int} (h0 : 0 ≤ m) (h1 : m ≤ 9223372036854775807) : Ev (fun k => impl_within.f k m [a, b]) (decide ((-m ≤ a ∧ a ≤ m) ∧ -m ≤ b ∧ b ≤ m)) := by
  unfold impl_within.f
  refine ev_eq (within_l h0 h1 _ [] (by simp)) ?_
  simp
theorem within4 {m a b c d : Int} (h0 : 0 ≤ m) (h1 : m ≤ 9223372036854775807) : Ev (fun k => impl_within.f k m [a, b, c, d]) (decide ((-m ≤ a ∧ a ≤ m) ∧ (-m ≤ b ∧ b ≤ m) ∧ (-m ≤ c ∧ c ≤ m) ∧ -m ≤ d ∧ d ≤ m)) := by
  unfold impl_within.f
  refine ev_eq (within_l h0 h1 _ [] (by simp)) ?_
  simp
theorem gcd_l : ∀ (n : Nat) (a b : Int), b.natAbs ≤ n → a.natAbs ≤ 9223372036854775807 → b.natAbs ≤ 9223372036854775807 → Ev (fun k => impl_gcd.l0 k a b) (Int.gcd a b : Int) := by
  intro n
  induction n with
  | zero =>
    intro a b hb h0 h1
    obtain rfl : b = 0 := by omega
    refine Ev.step (fun k => by rw [impl_gcd.l0]) ?_
    simp only [if_true]
    refine ev_some ?_
    rw [wrap_id (by omega) (by omega), Int.gcd_zero]
    unfold mx; split <;> omega
  | succ n ih =>
    intro a b hb h0 h1
    refine Ev.step (fun k => by rw [impl_gcd.l0]) ?_
    by_cases hz : b = 0
    · subst hz
      simp only [if_true]
      refine ev_some ?_
      rw [wrap_id (by omega) (by omega), Int.gcd_zero]
      unfold mx; split <;> omega
    · simp only [if_neg hz]
      have hlt := tmod_natAbs_lt (a := a) hz
      refine ev_eq (ih b (Int.tmod a b) (by omega) (by omega) (by omega)) ?_
      rw [gcd_tmod]
theorem gcd_ev {a b : Int} (h0 : a.natAbs ≤ 9223372036854775807) (h1 : b.natAbs ≤ 9223372036854775807) : Ev (fun k => impl_gcd.f k a b) (Int.gcd a b : Int) := by
  unfold impl_gcd.f
  exact gcd_l b.natAbs a b (Nat.le_refl _) h0 h1
theorem l01Gcd_l : ∀ (n : Nat) (a b : Int), b.natAbs ≤ n → a.natAbs ≤ 9223372036854775807 → b.natAbs ≤ 9223372036854775807 → Ev (fun k => spec_l01Gcd.l0 k a b) (Int.gcd a b : Int) := by
  intro n
  induction n with
  | zero =>
    intro a b hb h0 h1
    obtain rfl : b = 0 := by omega
    refine Ev.step (fun k => by rw [spec_l01Gcd.l0]) ?_
    simp only [if_true]
    refine ev_some ?_
    rw [wrap_id (by omega) (by omega), Int.gcd_zero]
    unfold mx; split <;> omega
  | succ n ih =>
    intro a b hb h0 h1
    refine Ev.step (fun k => by rw [spec_l01Gcd.l0]) ?_
    by_cases hz : b = 0
    · subst hz
      simp only [if_true]
      refine ev_some ?_
      rw [wrap_id (by omega) (by omega), Int.gcd_zero]
      unfold mx; split <;> omega
    · simp only [if_neg hz]
      have hlt := tmod_natAbs_lt (a := a) hz
      refine ev_eq (ih b (Int.tmod a b) (by omega) (by omega) (by omega)) ?_
      rw [gcd_tmod]
theorem l01Gcd_ev {a b : Int} (h0 : a.natAbs ≤ 9223372036854775807) (h1 : b.natAbs ≤ 9223372036854775807) : Ev (fun k => spec_l01Gcd.f k a b) (Int.gcd a b : Int) := by
  unfold spec_l01Gcd.f
  exact l01Gcd_l b.natAbs a b (Nat.le_refl _) h0 h1
theorem IsEnd_ev {n d : Int} : Ev (fun k => impl_IsEnd.f k n d) (decide (EndOk n d)) := by
  unfold impl_IsEnd.f EndOk
  by_cases hd : d = 0
  · simp only [if_pos hd]
    exact ev_dec (by simp)
  · simp only [if_neg hd]
    rw [bnd (within2 (by omega) (by omega))]
    by_cases h1 : (-1000000 ≤ n ∧ n ≤ 1000000) ∧ -1000000 ≤ d ∧ d ≤ 1000000
    · simp only [h1, and_self, decide_true, if_true]
      by_cases h2 : d > 0
      · simp only [if_pos h2]
        rw [bnd (gcd_ev (by omega) (by omega))]
        exact ev_dec (by simp; omega)
      · simp only [if_neg h2]
        exact ev_dec (by simp; omega)
    · simp only [h1, decide_false, if_neg Bool.false_ne_true]
      exact ev_dec (by simp; omega)
theorem l01End_ev {n d : Int} : Ev (fun k => spec_l01End.f k n d) (decide (EndOk n d)) := by
  unfold spec_l01End.f EndOk
  by_cases hd : d = 0
  · simp only [if_pos hd]
    exact ev_dec (by simp)
  · simp only [if_neg hd, l01In_eq, Option.bind_some]
    by_cases h1 : 1 ≤ d ∧ d ≤ 1000000
    · simp only [h1, and_self, decide_true, if_true]
      by_cases h2 : -1000000 ≤ n ∧ n ≤ 1000000
      · simp only [h2, and_self, decide_true, if_true]
        rw [bnd (l01Gcd_ev (by omega) (by omega))]
        exact ev_dec (by simp; omega)
      · simp only [h2, decide_false, if_neg Bool.false_ne_true]
        exact ev_dec (by simp; omega)
    · simp only [h1, decide_false, if_neg Bool.false_ne_true]
      exact ev_dec (by simp; omega)
def FnExactIsEndPure : Prop := ∀ (a0_0 : Int) (a0_1 : Int), (Lit.int .i64 a0_0).wf = true → (Lit.int .i64 a0_1).wf = true → ∃ k, laws_FnExactIsEnd.f k a0_0 a0_1 = some true
theorem FnExactIsEnd : FnExactIsEndPure := by
  intro a0 a1 w0 w1
  refine Ev.rounds (g := fun k => laws_FnExactIsEnd.f k a0 a1) ?_
  unfold laws_FnExactIsEnd.f spec_IsEnd.f
  simp only [laws_toEnd.f, Option.bind_some]
  rw [bnd (Ev.bind l01End_ev (Ev.now _)), bnd IsEnd_ev]
  simp only [bne_self_eq_false, if_neg Bool.false_ne_true]
  exact Ev.now _

end Go.Proofs.Ytockdkalkelbcaa.Pure

/- EndOf and the reference's EndOf answer the same for every fraction. No condition. -/
import Derived.Test.YtockdkalkelbcaaPFnExactEndOfx4
import Derived.Test.YtockdkalkelbcaaMath
namespace Go.Proofs.Ytockdkalkelbcaa.Pure
open Go.RowKit Go.Proofs.Ytockdkalkelbcaa.PFnExactEndOf Go.Proofs.YtockdkalkelbcaaW.PrintWords Go.Proofs.YtockdkalkelbcaaW.PrintLast Go.Proofs.YtockdkalkelbcaaW.PrintMore Go.Proofs.Ytockdkalkelbcaa.Math
set_option linter.unusedVariables false
set_option linter.unusedSimpArgs false
theorem l01In_eq (n a b : Int) : spec_l01In.f n a b = some (decide (a ≤ n ∧ n ≤ b)) := by
  unfold spec_l01In.f
  by_cases h : n ≥ a
  · rw [if_pos h]; simp [h]
  · rw [if_neg h]; simp; omega
theorem rd_at (pre : List Int) (b : Int) (ys : List Int) : rd (pre ++ b :: ys) (pre.length : Int) = b := by
  unfold rd
  simp [List.getD_eq_getElem?_getD]
theorem within_l {m : Int} (h0 : 0 ≤ m) (h1 : m ≤ 9223372036854775807) : ∀ (ys pre : List Int), (pre ++ ys).length ≤ 1000 → Ev (fun k => impl_within.l0 k m (pre ++ ys) ((pre ++ ys).length : Int) pre.length) (decide (∀ b ∈ ys, -m ≤ b ∧ b ≤ m)) := by
  intro ys
  induction ys with
  | nil =>
    intro pre _
    refine Ev.step (fun k => by rw [impl_within.l0]) ?_
    simp only [List.append_nil, if_neg (Int.lt_irrefl _)]
    exact ev_some (by simp)
  | cons b ys ih =>
    intro pre hl
    refine Ev.step (fun k => by rw [impl_within.l0]) ?_
    have hl' : (pre ++ b :: ys).length = pre.length + (ys.length + 1) := by simp
    have hlt : (pre.length : Int) < ((pre ++ b :: ys).length : Int) := by omega
    have em : wrap64 (-m) = -m := wrap_id (by omega) (by omega)
    simp only [if_pos hlt, if_pos (show (0 : Int) ≤ (pre.length : Int) by omega), rd_at, em]
    by_cases h2 : b < -m
    · simp only [if_pos h2]
      refine ev_some ?_
      symm
      rw [decide_eq_false_iff_not]
      intro hall
      have := hall b (by simp)
      omega
    · simp only [if_neg h2]
      by_cases h3 : b > m
      · simp only [if_pos h3]
        refine ev_some ?_
        symm
        rw [decide_eq_false_iff_not]
        intro hall
        have := hall b (by simp)
        omega
      · simp only [if_neg h3]
        have e : wrap64 ((pre.length : Int) + 1) = ((pre ++ [b]).length : Int) := by rw [wrap_id (by omega) (by omega)]; simp
        have := ih (pre ++ [b]) (by simpa using hl)
        rw [e]
        simp only [List.append_assoc, List.singleton_append] at this
        refine ev_eq this ?_
        have : (∀ c ∈ b :: ys, -m ≤ c ∧ c ≤ m) ↔ (∀ c ∈ ys, -m ≤ c ∧ c ≤ m) := by simp; omega
        simp only [this]
theorem within2 {m a b : Int} (h0 : 0 ≤ m) (h1 : m ≤ 9223372036854775807) : Ev (fun k => impl_within.f k m [a, b]) (decide ((-m ≤ a ∧ a ≤ m) ∧ -m ≤ b ∧ b ≤ m)) := by
  unfold impl_within.f
  refine ev_eq (within_l h0 h1 _ [] (by simp)) ?_
  simp
theorem within4 {m a b c d : Int} (h0 : 0 ≤ m) (h1 : m ≤ 9223372036854775807) : Ev (fun k => impl_within.f k m [a, b, c, d]) (decide ((-m ≤ a ∧ a ≤ m) ∧ (-m ≤ b ∧ b ≤ m) ∧ (-m ≤ c ∧ c ≤ m) ∧ -m ≤ d ∧ d ≤ m)) := by
  unfold impl_within.f
  refine ev_eq (within_l h0 h1 _ [] (by simp)) ?_
  simp
theorem gcd_l : ∀ (n : Nat) (a b : Int), b.natAbs ≤ n → a.natAbs ≤ 9223372036854775807 → b.natAbs ≤ 9223372036854775807 → Ev (fun k => impl_gcd.l0 k a b) (Int.gcd a b : Int) := by
  intro n
  induction n with
  | zero =>
    intro a b hb h0 h1
    obtain rfl : b = 0 := by omega
    refine Ev.step (fun k => by rw [impl_gcd.l0]) ?_
    simp only [if_true]
    refine ev_some ?_
    rw [wrap_id (by omega) (by omega), Int.gcd_zero]
    unfold mx; split <;> omega
  | succ n ih =>
    intro a b hb h0 h1
    refine Ev.step (fun k => by rw [impl_gcd.l0]) ?_
    by_cases hz : b = 0
    · subst hz
      simp only [if_true]
      refine ev_some ?_
      rw [wrap_id (by omega) (by omega), Int.gcd_zero]
      unfold mx; split <;> omega
    · simp only [if_neg hz]
      have hlt := tmod_natAbs_lt (a := a) hz
      refine ev_eq (ih b (Int.tmod a b) (by omega) (by omega) (by omega)) ?_
      rw [gcd_tmod]
theorem gcd_ev {a b : Int} (h0 : a.natAbs ≤ 9223372036854775807) (h1 : b.natAbs ≤ 9223372036854775807) : Ev (fun k => impl_gcd.f k a b) (Int.gcd a b : Int) := by
  unfold impl_gcd.f
  exact gcd_l b.natAbs a b (Nat.le_refl _) h0 h1
theorem l01Gcd_l : ∀ (n : Nat) (a b : Int), b.natAbs ≤ n → a.natAbs ≤ 9223372036854775807 → b.natAbs ≤ 9223372036854775807 → Ev (fun k => spec_l01Gcd.l0 k a b) (Int.gcd a b : Int) := by
  intro n
  induction n with
  | zero =>
    intro a b hb h0 h1
    obtain rfl : b = 0 := by omega
    refine Ev.step (fun k => by rw [spec_l01Gcd.l0]) ?_
    simp only [if_true]
    refine ev_some ?_
    rw [wrap_id (by omega) (by omega), Int.gcd_zero]
    unfold mx; split <;> omega
  | succ n ih =>
    intro a b hb h0 h1
    refine Ev.step (fun k => by rw [spec_l01Gcd.l0]) ?_
    by_cases hz : b = 0
    · subst hz
      simp only [if_true]
      refine ev_some ?_
      rw [wrap_id (by omega) (by omega), Int.gcd_zero]
      unfold mx; split <;> omega
    · simp only [if_neg hz]
      have hlt := tmod_natAbs_lt (a := a) hz
      refine ev_eq (ih b (Int.tmod a b) (by omega) (by omega) (by omega)) ?_
      rw [gcd_tmod]
theorem l01Gcd_ev {a b : Int} (h0 : a.natAbs ≤ 9223372036854775807) (h1 : b.natAbs ≤ 9223372036854775807) : Ev (fun k => spec_l01Gcd.f k a b) (Int.gcd a b : Int) := by
  unfold spec_l01Gcd.f
  exact l01Gcd_l b.natAbs a b (Nat.le_refl _) h0 h1
theorem IsEnd_ev {n d : Int} : Ev (fun k => impl_IsEnd.f k n d) (decide (EndOk n d)) := by
  unfold impl_IsEnd.f EndOk
  by_cases hd : d = 0
  · simp only [if_pos hd]
    exact ev_dec (by simp)
  · simp only [if_neg hd]
    rw [bnd (within2 (by omega) (by omega))]
    by_cases h1 : (-1000000 ≤ n ∧ n ≤ 1000000) ∧ -1000000 ≤ d ∧ d ≤ 1000000
    · simp only [h1, and_self, decide_true, if_true]
      by_cases h2 : d > 0
      · simp only [if_pos h2]
        rw [bnd (gcd_ev (by omega) (by omega))]
        exact ev_dec (by simp; omega)
      · simp only [if_neg h2]
        exact ev_dec (by simp; omega)
    · simp only [h1, decide_false, if_neg Bool.false_ne_true]
      exact ev_dec (by simp; omega)
theorem ed_wrap {n d : Int} (hd : d ≠ 0) (h0 : n.natAbs ≤ 9223372036854775807) (h1 : d.natAbs ≤ 9223372036854775807) : wrap64 (edN n d) = edN n d ∧ wrap64 (edD n d) = edD n d ∧ wrap64 (-edN n d) = -edN n d := by
  obtain ⟨a, b, c, e, _⟩ := ed_facts (n := n) hd
  exact ⟨wrap_id (by omega) (by omega), wrap_id (by omega) (by omega), wrap_id (by omega) (by omega)⟩
theorem endAt_ev {n d : Int} (h0 : n.natAbs ≤ 9223372036854775807) (h1 : d.natAbs ≤ 9223372036854775807) : Ev (fun k => impl_endAt.f k n d) (EAt n d) := by
  unfold impl_endAt.f EAt
  by_cases hd : d = 0
  · simp only [if_pos hd]; exact Ev.now _
  · simp only [if_neg hd]
    rw [bnd (gcd_ev h0 h1)]
    obtain ⟨w1, w2, _⟩ := ed_wrap (n := n) hd h0 h1
    obtain ⟨g0, _, _, g3, g4, _⟩ := edG_facts (n := n) hd
    by_cases hn : d < 0
    · have e : wrap64 (-(Int.gcd n d : Int)) = edG n d := by
        have : edG n d = -(Int.gcd n d : Int) := by unfold edG; rw [if_pos hn]
        rw [← this]; exact wrap_id (by omega) (by omega)
      simp only [if_pos hn, e, if_neg g0]
      have w1' : wrap64 (Int.tdiv n (edG n d)) = edN n d := w1
      have w2' : wrap64 (Int.tdiv d (edG n d)) = edD n d := w2
      simp only [w1', w2']
      rw [bnd IsEnd_ev]
      exact Ev.now _
    · have e : (Int.gcd n d : Int) = edG n d := by unfold edG; rw [if_neg hn]
      simp only [if_neg hn, e, if_neg g0]
      have w1' : wrap64 (Int.tdiv n (edG n d)) = edN n d := w1
      have w2' : wrap64 (Int.tdiv d (edG n d)) = edD n d := w2
      simp only [w1', w2']
      rw [bnd IsEnd_ev]
      exact Ev.now _
theorem mx_abs {x : Int} : mx x (-x) ≤ 1000000 ↔ -1000000 ≤ x ∧ x ≤ 1000000 := by unfold mx; split <;> omega
theorem l01EndOf_ev {n d : Int} (h0 : n.natAbs ≤ 9223372036854775807) (h1 : d.natAbs ≤ 9223372036854775807) : Ev (fun k => spec_l01EndOf.f k n d) (EAt n d) := by
  unfold spec_l01EndOf.f EAt
  by_cases hd : d = 0
  · simp only [if_pos hd]; exact Ev.now _
  · simp only [if_neg hd]
    rw [bnd (l01Gcd_ev h0 h1)]
    obtain ⟨w1, w2, w3⟩ := ed_wrap (n := n) hd h0 h1
    obtain ⟨g0, _, _, g3, g4, _⟩ := edG_facts (n := n) hd
    have hok := ed_ok (n := n) hd
    have w1' : wrap64 (Int.tdiv n (edG n d)) = edN n d := w1
    have w2' : wrap64 (Int.tdiv d (edG n d)) = edD n d := w2
    by_cases hn : d < 0
    · have e : wrap64 (-(Int.gcd n d : Int)) = edG n d := by
        have : edG n d = -(Int.gcd n d : Int) := by unfold edG; rw [if_pos hn]
        rw [← this]; exact wrap_id (by omega) (by omega)
      simp only [if_pos hn, e, if_neg g0, w1', w2', w3]
      by_cases h2 : edD n d ≤ 1000000
      · simp only [if_pos h2]
        refine ev_some ?_
        have : (mx (edN n d) (-edN n d) ≤ 1000000) ↔ EndOk (edN n d) (edD n d) := by rw [mx_abs, hok]; simp [h2]
        simp only [this]
      · simp only [if_neg h2]
        refine ev_some ?_
        have : ¬ EndOk (edN n d) (edD n d) := by rw [hok]; simp [h2]
        simp [this]
    · have e : (Int.gcd n d : Int) = edG n d := by unfold edG; rw [if_neg hn]
      simp only [if_neg hn, e, if_neg g0, w1', w2', w3]
      by_cases h2 : edD n d ≤ 1000000
      · simp only [if_pos h2]
        refine ev_some ?_
        have : (mx (edN n d) (-edN n d) ≤ 1000000) ↔ EndOk (edN n d) (edD n d) := by rw [mx_abs, hok]; simp [h2]
        simp only [this]
      · simp only [if_neg h2]
        refine ev_some ?_
        have : ¬ EndOk (edN n d) (edD n d) := by rw [hok]; simp [h2]
        simp [this]
def EndOfR (n d : Int) : Int × Int × Int :=
  if (-100000000000000000 ≤ n ∧ n ≤ 100000000000000000) ∧ -100000000000000000 ≤ d ∧ d ≤ 100000000000000000 then
    (if n = 0 ∧ d = 0 then (0, 0, 5) else (if (EAt n d).2.2 = true then ((EAt n d).1, (EAt n d).2.1, 0) else (0, 0, 3))) else (0, 0, 2)
theorem implEndOf_ev {n d : Int} : Ev (fun k => impl_EndOf.f k n d) (EndOfR n d) := by
  unfold impl_EndOf.f EndOfR
  rw [bnd (within2 (by omega) (by omega))]
  by_cases h1 : (-100000000000000000 ≤ n ∧ n ≤ 100000000000000000) ∧ -100000000000000000 ≤ d ∧ d ≤ 100000000000000000
  · simp only [h1, and_self, decide_true, if_true]
    have go : ∀ b : Bool, (b = true ↔ n = 0 ∧ d = 0) → Ev (fun k => impl_EndOf.j0 k n d b) (if n = 0 ∧ d = 0 then (0, 0, 5) else (if (EAt n d).2.2 = true then ((EAt n d).1, (EAt n d).2.1, 0) else (0, 0, 3))) := by
      intro b hb
      refine Ev.step (fun k => by rw [impl_EndOf.j0]) ?_
      by_cases hz : n = 0 ∧ d = 0
      · simp only [hb.2 hz, if_true, if_pos hz]; exact Ev.now _
      · have : b = false := by cases b with
          | true => exact absurd (hb.1 rfl) hz
          | false => rfl
        simp only [this, if_neg Bool.false_ne_true, if_neg hz]
        rw [bnd (endAt_ev (by omega) (by omega))]
        unfold impl_fittedEnd.f
        by_cases h2 : (EAt n d).2.2 = true
        · simp only [if_pos h2, Option.bind_some]; exact Ev.now _
        · simp only [if_neg h2, Option.bind_some]; exact Ev.now _
    by_cases h2 : n = 0
    · simp only [if_pos h2]
      exact go _ (by simp [h2])
    · simp only [if_neg h2]
      exact go _ (by simp [h2])
  · simp only [h1, decide_false, if_neg Bool.false_ne_true, if_false]; exact Ev.now _
theorem specEndOf_ev {n d : Int} : Ev (fun k => spec_EndOf.f k n d) (EndOfR n d) := by
  unfold spec_EndOf.f EndOfR
  simp only [l01In_eq, Option.bind_some]
  have go : ∀ b : Bool, (-100000000000000000 ≤ n ∧ n ≤ 100000000000000000) ∧ -100000000000000000 ≤ d ∧ d ≤ 100000000000000000 → (b = true ↔ n = 0 ∧ d = 0) → Ev (fun k => spec_EndOf.j1 k n d b) (if n = 0 ∧ d = 0 then (0, 0, 5) else (if (EAt n d).2.2 = true then ((EAt n d).1, (EAt n d).2.1, 0) else (0, 0, 3))) := by
    intro b hr hb
    refine Ev.step (fun k => by rw [spec_EndOf.j1]) ?_
    by_cases hz : n = 0 ∧ d = 0
    · simp only [hb.2 hz, if_true, if_pos hz]; exact Ev.now _
    · have : b = false := by cases b with
        | true => exact absurd (hb.1 rfl) hz
        | false => rfl
      simp only [this, if_neg Bool.false_ne_true, if_neg hz]
      rw [bnd (l01EndOf_ev (by omega) (by omega))]
      by_cases h2 : (EAt n d).2.2 = true
      · simp only [if_pos h2]; exact Ev.now _
      · simp only [if_neg h2]; exact Ev.now _
  by_cases h1 : -100000000000000000 ≤ n ∧ n ≤ 100000000000000000
  · simp only [h1, and_self, decide_true, if_true, true_and]
    refine Ev.step (fun k => by rw [spec_EndOf.j0]) ?_
    by_cases h2 : -100000000000000000 ≤ d ∧ d ≤ 100000000000000000
    · simp only [h2, and_self, decide_true, Bool.not_true, if_neg Bool.false_ne_true, if_true]
      by_cases h3 : n = 0
      · simp only [if_pos h3]
        exact go _ ⟨h1, h2⟩ (by simp [h3])
      · simp only [if_neg h3]
        exact go _ ⟨h1, h2⟩ (by simp [h3])
    · simp only [h2, decide_false, Bool.not_false, if_true, if_false]; exact Ev.now _
  · simp only [h1, decide_false, if_neg Bool.false_ne_true, false_and, if_false]
    refine Ev.step (fun k => by rw [spec_EndOf.j0]) ?_
    simp only [if_true]; exact Ev.now _
theorem FnExactEndOf : laws_FnExactEndOf.Pure := by
  intro a0 a1 w0 w1
  refine Ev.rounds (g := fun k => laws_FnExactEndOf.f k a0 a1) ?_
  unfold laws_FnExactEndOf.f
  rw [bnd specEndOf_ev, bnd implEndOf_ev]
  simp only [laws_eqEnd.f, if_true, Option.bind_some]
  exact Ev.now _

end Go.Proofs.Ytockdkalkelbcaa.Pure

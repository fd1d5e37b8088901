/- Balls hold the fractions of which they are made and their centres, two balls are apart or one holds the other, valuations change their sign for the inverse fraction, and all of them are the reference's: for every draw. No condition. -/
import Derived.Test.YtpmepopagapeiaaPFnBallsx20
import Derived.Test.YtpmepopagapeiaaMathFnBalls
namespace Go.Proofs.Ytpmepopagapeiaa.Pure
open Go.RowKit Go.Proofs.Ytpmepopagapeiaa.PFnBalls Go.Proofs.YtpmepopagapeiaaW.PrintWords Go.Proofs.YtpmepopagapeiaaW.PrintLast Go.Proofs.YtpmepopagapeiaaW.PrintMore Go.Proofs.Ytpmepopagapeiaa.Math
set_option linter.unusedVariables false
set_option linter.unusedSimpArgs false
theorem isPrime_eq (p : Int) : impl_isPrime.f p = some (decide (IsP p)) := by
 unfold impl_isPrime.f IsP
 by_cases h2 : p = 2
 ·subst h2; rfl
 by_cases h3 : p = 3
 ·subst h3; rfl
 by_cases h5 : p = 5
 ·subst h5; rfl
 by_cases h7 : p = 7
 ·subst h7; rfl
 simp [h2, h3, h5, h7]
theorem l01Prime_eq (p : Int) : spec_l01Prime.f p = some (decide (IsP p)) := by
 unfold spec_l01Prime.f IsP
 by_cases h2 : p = 2
 ·subst h2; rfl
 by_cases h3 : p = 3
 ·subst h3; rfl
 by_cases h5 : p = 5
 ·subst h5; rfl
 by_cases h7 : p = 7
 ·subst h7; rfl
 simp [h2, h3, h5, h7]
theorem l01In_eq (n a b : Int) : spec_l01In.f n a b = some (decide (a ≤ n ∧ n ≤ b)) := by
 unfold spec_l01In.f
 by_cases h : n ≥ a
 ·rw [if_pos h]; simp [h]
 ·rw [if_neg h]; simp; omega
theorem isLevel_eq (n : Int) : impl_isLevel.f n = some (decide (-6 ≤ n ∧ n ≤ 6)) := by
 unfold impl_isLevel.f
 by_cases h : n ≥ (-6)
 ·rw [if_pos h]; simp [h]
 ·rw [if_neg h]; simp; omega
theorem power_l {p : Int} (h : IsP p) (n : Nat) (hn : p ^ n ≤ 9223372036854775807) (hn' : n ≤ 1000) : ∀ d i, i + d = n → Ev (fun k => impl_power.l0 k p (p ^ i) n i) (p ^ n) := by
 intro d
 induction d with
 | zero =>
  intro i hi
  obtain rfl : i = n := by omega
  refine Ev.step (fun k => by rw [impl_power.l0]) ?_
  simp only [if_neg (Int.lt_irrefl _)]
  exact Ev.now _
 | succ d ih =>
  intro i hi
  refine Ev.step (fun k => by rw [impl_power.l0]) ?_
  have h1 : (i : Int) < n := by omega
  have h2 := pow_pos' h (i + 1)
  have h3 := pow_mono h (m := i + 1) (n := n) (by omega)
  have e1 : wrap64 (p ^ i * p) = p ^ (i + 1) := by rw [← show p ^ (i + 1) = p ^ i * p from Int.pow_succ p i]; exact wrap_id (by omega) (by omega)
  have e2 : wrap64 ((i : Int) + 1) = ((i + 1 : Nat) : Int) := by rw [wrap_id (by omega) (by omega)]; omega
  simp only [if_pos h1, e1, e2]
  exact ih (i + 1) (by omega)
theorem power_big {p : Int} (h : IsP p) {n : Nat} (hn : p ^ n ≤ 9223372036854775807) (hn' : n ≤ 1000) : Ev (fun k => impl_power.f k p n) (p ^ n) := by
 unfold impl_power.f
 have := power_l h n hn hn' n 0 (by omega)
 rw [Int.pow_zero] at this
 exact this
theorem power_ev {p : Int} (h : IsP p) {n : Int} (hn : n ≤ 22) : Ev (fun k => impl_power.f k p n) (p ^ n.toNat) := by
 by_cases h0 : 0 ≤ n
 ·have := power_big h (n := n.toNat) (by have := pow_le_22 h (n := n.toNat) (by omega); omega) (by omega)
  rw [Int.toNat_of_nonneg h0] at this
  exact this
 ·unfold impl_power.f
  refine Ev.step (fun k => by rw [impl_power.l0]) ?_
  have e : n.toNat = 0 := by omega
  simp only [if_neg (show ¬ (0 : Int) < n by omega), e, Int.pow_zero]
  exact Ev.now _
theorem power_any {p x : Int} (h : IsP p) (hx : x ≠ 0) (h0 : -9223372036854775807 ≤ x) (h1 : x ≤ 9223372036854775807) : Ev (fun k => impl_power.f k p (vl p x)) (p ^ vl p x) :=
 power_big h (by have := pow_vl_le h hx; omega) (by have := vl_le_62 h hx h0 h1; omega)
theorem l01Power_l {p : Int} (h : IsP p) : ∀ (d : Nat) (i : Nat), p ^ (i + d) ≤ 9223372036854775807 → i + d ≤ 1000 → Ev (fun k => spec_l01Power.l0 k p d (p ^ i)) (p ^ (i + d)) := by
 intro d
 induction d with
 | zero =>
  intro i _ _
  refine Ev.step (fun k => by rw [spec_l01Power.l0]) ?_
  simp only [if_neg (show ¬ ((0 : Nat) : Int) > 0 by omega)]
  exact Ev.now _
 | succ d ih =>
  intro i hi hi'
  refine Ev.step (fun k => by rw [spec_l01Power.l0]) ?_
  have h2 := pow_pos' h (i + 1)
  have h3 := pow_mono h (m := i + 1) (n := i + (d + 1)) (by omega)
  have e1 : wrap64 (p ^ i * p) = p ^ (i + 1) := by rw [← show p ^ (i + 1) = p ^ i * p from Int.pow_succ p i]; exact wrap_id (by omega) (by omega)
  have e2 : wrap64 (((d + 1 : Nat) : Int) - 1) = (d : Int) := by rw [wrap_id (by omega) (by omega)]; omega
  simp only [if_pos (show ((d + 1 : Nat) : Int) > 0 by omega), e1, e2]
  have e3 : i + (d + 1) = i + 1 + d := by omega
  rw [e3] at hi ⊢
  exact ih (i + 1) hi (by omega)
theorem l01Power_big {p : Int} (h : IsP p) {n : Nat} (hn : p ^ n ≤ 9223372036854775807) (hn' : n ≤ 1000) : Ev (fun k => spec_l01Power.f k p n) (p ^ n) := by
 unfold spec_l01Power.f
 have := l01Power_l h n 0 (by rw [Nat.zero_add]; exact hn) (by omega)
 rw [Int.pow_zero, Nat.zero_add] at this
 exact this
theorem l01Power_ev {p : Int} (h : IsP p) {n : Int} (hn : n ≤ 22) : Ev (fun k => spec_l01Power.f k p n) (p ^ n.toNat) := by
 by_cases h0 : 0 ≤ n
 ·have := l01Power_big h (n := n.toNat) (by have := pow_le_22 h (n := n.toNat) (by omega); omega) (by omega)
  rw [Int.toNat_of_nonneg h0] at this
  exact this
 ·unfold spec_l01Power.f
  refine Ev.step (fun k => by rw [spec_l01Power.l0]) ?_
  have e : n.toNat = 0 := by omega
  simp only [if_neg (show ¬ n > 0 by omega), e, Int.pow_zero]
  exact Ev.now _
theorem l01Power_any {p x : Int} (h : IsP p) (hx : x ≠ 0) (h0 : -9223372036854775807 ≤ x) (h1 : x ≤ 9223372036854775807) : Ev (fun k => spec_l01Power.f k p (vl p x)) (p ^ vl p x) :=
 l01Power_big h (by have := pow_vl_le h hx; omega) (by have := vl_le_62 h hx h0 h1; omega)
theorem valuation_l {p : Int} (h : IsP p) : ∀ (v : Nat) (u : Int) (n : Int), ¬ p ∣ u → -9223372036854775807 ≤ p ^ v * u → p ^ v * u ≤ 9223372036854775807 → 0 ≤ n → n + v ≤ 1000 → Ev (fun k => impl_valuation.l0 k p (p ^ v * u) n) (n + v) := by
 intro v
 induction v with
 | zero =>
  intro u n hu h0 h1 hn hv
  refine Ev.step (fun k => by rw [impl_valuation.l0]) ?_
  have hne : ¬ Int.tmod (p ^ 0 * u) p = 0 := fun e => by
   rw [tmod_zero_iff, Int.pow_zero, Int.one_mul] at e; exact hu e
  simp only [if_neg h.ne, if_neg hne]
  exact ev_some (by simp)
 | succ v ih =>
  intro u n hu h0 h1 hn hv
  refine Ev.step (fun k => by rw [impl_valuation.l0]) ?_
  have e0 : p ^ (v + 1) * u = p * (p ^ v * u) := by rw [Int.pow_succ, Int.mul_comm (p ^ v) p, Int.mul_assoc]
  have hd : Int.tmod (p ^ (v + 1) * u) p = 0 := by rw [tmod_zero_iff, e0]; exact Int.dvd_mul_right _ _
  have e1 : Int.tdiv (p ^ (v + 1) * u) p = p ^ v * u := by rw [e0]; exact tdiv_mul_left h.ne
  have hb := tdiv_bounds (n := p ^ (v + 1) * u) (m := p)
  rw [e1] at hb
  have e2 : wrap64 (p ^ v * u) = p ^ v * u := wrap_id (by omega) (by omega)
  have e3 : wrap64 (n + 1) = n + 1 := wrap_id (by omega) (by omega)
  simp only [if_neg h.ne, if_pos hd, e1, e2, e3]
  exact ev_eq (ih u (n + 1) hu (by omega) (by omega) (by omega) (by omega)) (by omega)
theorem valuation_ev {p : Int} (h : IsP p) {x : Int} (hx : x ≠ 0) (h0 : -9223372036854775807 ≤ x) (h1 : x ≤ 9223372036854775807) : Ev (fun k => impl_valuation.f k p x) (vl p x) := by
 unfold impl_valuation.f
 simp only [if_neg hx]
 obtain ⟨u, hu, hnd, _⟩ := vl_split h x hx
 have hv := vl_le_62 h hx h0 h1
 have := valuation_l h (vl p x) u 0 hnd (by omega) (by omega) (by omega) (by omega)
 rw [← hu, Int.zero_add] at this
 exact this
theorem valuation_zero (k : Nat) (p : Int) : impl_valuation.f k p 0 = some 1000 := by unfold impl_valuation.f; rw [if_pos rfl]
theorem valuation_zero_ev (p : Int) : Ev (fun k => impl_valuation.f k p 0) 1000 := ⟨0, fun k _ => valuation_zero k p⟩
def vx (p x : Int) : Int := if x = 0 then 1000 else vl p x
theorem valuation_any {p : Int} (h : IsP p) {x : Int} (h0 : -9223372036854775807 ≤ x) (h1 : x ≤ 9223372036854775807) : Ev (fun k => impl_valuation.f k p x) (vx p x) := by
 unfold vx
 by_cases hx : x = 0
 ·subst hx; rw [if_pos rfl]; exact valuation_zero_ev p
 ·rw [if_neg hx]; exact valuation_ev h hx h0 h1
theorem l01Val_l {p : Int} (h : IsP p) : ∀ (v : Nat) (u : Int) (n : Int), ¬ p ∣ u → -9223372036854775807 ≤ p ^ v * u → p ^ v * u ≤ 9223372036854775807 → 0 ≤ n → n + v ≤ 1000 → Ev (fun k => spec_l01Val.l0 k p (p ^ v * u) n) (n + v) := by
 intro v
 induction v with
 | zero =>
  intro u n hu h0 h1 hn hv
  refine Ev.step (fun k => by rw [spec_l01Val.l0]) ?_
  have hne : ¬ Int.tmod (p ^ 0 * u) p = 0 := fun e => by
   rw [tmod_zero_iff, Int.pow_zero, Int.one_mul] at e; exact hu e
  simp only [if_neg h.ne, if_neg hne]
  exact ev_some (by simp)
 | succ v ih =>
  intro u n hu h0 h1 hn hv
  refine Ev.step (fun k => by rw [spec_l01Val.l0]) ?_
  have e0 : p ^ (v + 1) * u = p * (p ^ v * u) := by rw [Int.pow_succ, Int.mul_comm (p ^ v) p, Int.mul_assoc]
  have hd : Int.tmod (p ^ (v + 1) * u) p = 0 := by rw [tmod_zero_iff, e0]; exact Int.dvd_mul_right _ _
  have e1 : Int.tdiv (p ^ (v + 1) * u) p = p ^ v * u := by rw [e0]; exact tdiv_mul_left h.ne
  have hb := tdiv_bounds (n := p ^ (v + 1) * u) (m := p)
  rw [e1] at hb
  have e2 : wrap64 (p ^ v * u) = p ^ v * u := wrap_id (by omega) (by omega)
  have e3 : wrap64 (n + 1) = n + 1 := wrap_id (by omega) (by omega)
  simp only [if_neg h.ne, if_pos hd, e1, e2, e3]
  exact ev_eq (ih u (n + 1) hu (by omega) (by omega) (by omega) (by omega)) (by omega)
theorem l01Val_ev {p : Int} (h : IsP p) {x : Int} (hx : x ≠ 0) (h0 : -9223372036854775807 ≤ x) (h1 : x ≤ 9223372036854775807) : Ev (fun k => spec_l01Val.f k p x) (vl p x) := by
 unfold spec_l01Val.f
 obtain ⟨u, hu, hnd, _⟩ := vl_split h x hx
 have hv := vl_le_62 h hx h0 h1
 have := l01Val_l h (vl p x) u 0 hnd (by omega) (by omega) (by omega) (by omega)
 rw [← hu, Int.zero_add] at this
 exact this
theorem mod_ev {n m : Int} (hm : 0 < m) (hm' : m ≤ 4611686018427387904) : impl_mod.f n m = some (n % m) := by
 unfold impl_mod.f
 have hb := mod_between (n := n) hm
 rw [if_neg (show ¬ m = 0 by omega), wrap_id (by omega) (by omega), mod_eq hm]
theorem IsBall_ev {p l t d : Int} (hl : -9223372036854775808 ≤ l ∧ l ≤ 9223372036854775807) (hd : -9223372036854775808 ≤ d ∧ d ≤ 9223372036854775807) :
  Ev (fun k => impl_IsBall.f k p l t d) (decide (IsP p ∧ Bal p l t d)) := by
 unfold impl_IsBall.f
 simp only [isPrime_eq, isLevel_eq, Option.bind_some]
 have bad : ∀ {c : Prop} [Decidable c], ¬ c → Ev (fun k => impl_IsBall.j0 k p true l t d) (decide c) := by
  intro c _ hc
  refine Ev.step (fun k => by rw [impl_IsBall.j0]) ?_
  simp only [if_true]
  exact ev_some (by simp [hc])
 by_cases hp : IsP p
 ·simp only [hp, decide_true, if_true]
  by_cases h1 : -6 ≤ l ∧ l ≤ 6
  ·simp only [h1, decide_true, if_true, and_self]
   by_cases h2 : d < 0
   ·simp only [if_pos h2]
    exact bad (by unfold Bal; omega)
   ·simp only [if_neg h2]
    by_cases h3 : d > 6
    ·simp only [h3, decide_true]
     exact bad (by unfold Bal; omega)
    ·simp only [h3, decide_false]
     refine Ev.step (fun k => by rw [impl_IsBall.j0]) ?_
     have e : wrap64 (l + d) = l + d := wrap_id (by omega) (by omega)
     simp only [if_neg Bool.false_ne_true, e]
     by_cases h4 : l + d ≤ 0
     ·simp only [if_pos h4]
      by_cases h5 : t = 0
      ·simp only [if_pos h5]
       exact ev_dec (by rw [Bal_low h4]; simp [hp, h5]; omega)
      ·simp only [if_neg h5]
       exact ev_dec (by rw [Bal_low h4]; simp [h5])
     ·simp only [if_neg h4]
      have hpw := pow_pos' hp (l + d).toNat
      by_cases h5 : t ≥ 0
      ·simp only [if_pos h5]
       rw [bnd (power_ev hp (by omega))]
       by_cases h6 : t < p ^ (l + d).toNat
       ·simp only [if_pos h6]
        by_cases h7 : d = 0
        ·simp only [if_pos h7]
         exact ev_dec (by rw [Bal_high h4]; simp [hp, h7] at h6 ⊢; omega)
        ·simp only [if_neg h7, if_neg hp.ne]
         refine ev_dec ?_
         rw [Bal_high h4]
         by_cases h8 : p ∣ t <;> simp [hp, h7, tmod_zero_iff, h8] <;> omega
       ·simp only [if_neg h6]
        exact ev_dec (by rw [Bal_high h4]; simp [hp]; omega)
      ·simp only [if_neg h5]
       exact ev_dec (by rw [Bal_high h4]; simp [hp]; omega)
  ·simp only [h1, decide_false, if_neg Bool.false_ne_true]
   exact bad (by unfold Bal; omega)
 ·simp only [hp, decide_false, if_neg Bool.false_ne_true]
  exact bad (by simp)
theorem l01Is_ev {p l t d : Int} (hl : -9223372036854775808 ≤ l ∧ l ≤ 9223372036854775807) (hd : -9223372036854775808 ≤ d ∧ d ≤ 9223372036854775807) :
  Ev (fun k => spec_l01Is.f k p l t d) (decide (IsP p ∧ Bal p l t d)) := by
 unfold spec_l01Is.f
 simp only [l01Prime_eq, l01In_eq, Option.bind_some]
 have bad : ∀ {c : Prop} [Decidable c], ¬ c → Ev (fun k => spec_l01Is.j0 k p true l t d) (decide c) := by
  intro c _ hc
  refine Ev.step (fun k => by rw [spec_l01Is.j0]) ?_
  simp only [if_true]
  exact ev_some (by simp [hc])
 by_cases hp : IsP p
 ·simp only [hp, decide_true, if_true]
  by_cases h1 : -6 ≤ l ∧ l ≤ 6
  ·simp only [h1, decide_true, if_true, and_self]
   by_cases h2 : 0 ≤ d ∧ d ≤ 6
   ·simp only [h2, decide_true, and_self, Bool.not_true]
    refine Ev.step (fun k => by rw [spec_l01Is.j0]) ?_
    have e : wrap64 (l + d) = l + d := wrap_id (by omega) (by omega)
    simp only [if_neg Bool.false_ne_true, e]
    by_cases h4 : l + d ≤ 0
    ·simp only [if_pos h4]
     by_cases h5 : t = 0
     ·simp only [if_pos h5]
      exact ev_dec (by rw [Bal_low h4]; simp [hp, h5]; omega)
     ·simp only [if_neg h5]
      exact ev_dec (by rw [Bal_low h4]; simp [h5])
    ·simp only [if_neg h4]
     have hpw := pow_pos' hp (l + d).toNat
     have hpw2 := pow_le_22 hp (n := (l + d).toNat) (by omega)
     rw [bnd (l01Power_ev hp (by omega))]
     have e2 : wrap64 (p ^ (l + d).toNat - 1) = p ^ (l + d).toNat - 1 := wrap_id (by omega) (by omega)
     simp only [l01In_eq, Option.bind_some, e2]
     by_cases h6 : 0 ≤ t ∧ t ≤ p ^ (l + d).toNat - 1
     ·simp only [h6, decide_true, if_true, and_self]
      by_cases h7 : d = 0
      ·simp only [if_pos h7]
       exact ev_dec (by rw [Bal_high h4]; simp [hp, h7] at h6 ⊢; omega)
      ·simp only [if_neg h7, if_neg hp.ne]
       refine ev_dec ?_
       rw [Bal_high h4]
       by_cases h8 : p ∣ t <;> simp [hp, h7, tmod_zero_iff, h8] <;> omega
     ·simp only [h6, decide_false, if_neg Bool.false_ne_true]
      exact ev_dec (by rw [Bal_high h4]; simp [hp]; omega)
   ·simp only [h2, decide_false, Bool.not_false]
    exact bad (by unfold Bal; omega)
  ·simp only [h1, decide_false, if_neg Bool.false_ne_true]
   exact bad (by unfold Bal; omega)
 ·simp only [hp, decide_false, if_neg Bool.false_ne_true]
  exact bad (by simp)
def BallOk (p : Int) (b : S27) : Prop := Bal p b.f0 b.f1 b.f2
instance (p : Int) (b : S27) : Decidable (BallOk p b) := by unfold BallOk; infer_instance
def BallWf (b : S27) : Prop := (-9223372036854775808 ≤ b.f0 ∧ b.f0 ≤ 9223372036854775807) ∧ (-9223372036854775808 ≤ b.f2 ∧ b.f2 ≤ 9223372036854775807)
theorem rd_ball_at (pre : List S27) (b : S27) (ys : List S27) : rd_T27 (pre ++ b :: ys) (pre.length : Int) = b := by
 unfold rd_T27
 simp [List.getD_eq_getElem?_getD]
theorem l01Code_l {p : Int} (hp : IsP p) : ∀ (ys pre : List S27), (pre ++ ys).length ≤ 1000 → (∀ b ∈ ys, BallWf b) → Ev (fun k => spec_l01Code.l0 k p (pre ++ ys) pre.length) (if ∀ b ∈ ys, BallOk p b then 0 else 1) := by
 intro ys
 induction ys with
 | nil =>
  intro pre _ _
  refine Ev.step (fun k => by rw [spec_l01Code.l0]) ?_
  simp only [List.append_nil, if_neg (Int.lt_irrefl _)]
  exact ev_some (by simp)
 | cons b ys ih =>
  intro pre hl hw
  refine Ev.step (fun k => by rw [spec_l01Code.l0]) ?_
  have hl' : (pre ++ b :: ys).length = pre.length + (ys.length + 1) := by simp
  have h1 : (pre.length : Int) < ((pre ++ b :: ys).length : Int) := by omega
  simp only [if_pos h1, if_pos (show (0 : Int) ≤ (pre.length : Int) by omega), rd_ball_at]
  have hb := hw b (by simp)
  rw [bnd (l01Is_ev hb.1 hb.2)]
  by_cases hB : Bal p b.f0 b.f1 b.f2
  ·simp only [hp, hB, and_self, decide_true, if_true]
   have e : wrap64 ((pre.length : Int) + 1) = ((pre ++ [b]).length : Int) := by rw [wrap_id (by omega) (by omega)]; simp
   have := ih (pre ++ [b]) (by simpa using hl) (fun c hc => hw c (by simp [hc]))
   rw [e]
   simp only [List.append_assoc, List.singleton_append] at this
   refine ev_eq this ?_
   have : (∀ c ∈ b :: ys, BallOk p c) ↔ (∀ c ∈ ys, BallOk p c) := by simp [BallOk, hB]
   simp only [this]
  ·simp only [hp, hB, and_false, decide_false, if_neg Bool.false_ne_true]
   refine ev_some ?_
   rw [if_neg]
   intro hall
   exact hB (hall b (by simp))
theorem l01Code_ev {p : Int} {ys : List S27} (hl : ys.length ≤ 1000) (hw : ∀ b ∈ ys, BallWf b) : Ev (fun k => spec_l01Code.f k p ys) (if IsP p ∧ ∀ b ∈ ys, BallOk p b then 0 else 1) := by
 unfold spec_l01Code.f
 simp only [l01Prime_eq, Option.bind_some]
 by_cases hp : IsP p
 ·simp only [hp, decide_true, if_true, true_and]
  exact l01Code_l hp ys [] (by simpa using hl) hw
 ·simp only [hp, decide_false, if_neg Bool.false_ne_true, false_and, if_false]
  exact Ev.now _
theorem l01Code1 {p l t d : Int} (hl : -9223372036854775808 ≤ l ∧ l ≤ 9223372036854775807) (hd : -9223372036854775808 ≤ d ∧ d ≤ 9223372036854775807) :
  Ev (fun k => spec_l01Code.f k p [⟨l, t, d⟩]) (if IsP p ∧ Bal p l t d then 0 else 1) := by
 refine ev_eq (l01Code_ev (by simp) (by intro b hb; simp at hb; subst hb; exact ⟨hl, hd⟩)) ?_
 simp [BallOk]
theorem l01Code2 {p l t d l' t' d' : Int} (hl : -9223372036854775808 ≤ l ∧ l ≤ 9223372036854775807) (hd : -9223372036854775808 ≤ d ∧ d ≤ 9223372036854775807)
  (hl' : -9223372036854775808 ≤ l' ∧ l' ≤ 9223372036854775807) (hd' : -9223372036854775808 ≤ d' ∧ d' ≤ 9223372036854775807) :
  Ev (fun k => spec_l01Code.f k p [⟨l, t, d⟩, ⟨l', t', d'⟩]) (if IsP p ∧ Bal p l t d ∧ Bal p l' t' d' then 0 else 1) := by
 refine ev_eq (l01Code_ev (by simp) (by intro b hb; simp at hb; rcases hb with rfl | rfl; exact ⟨hl, hd⟩; exact ⟨hl', hd'⟩)) ?_
 simp [BallOk]
theorem areBalls_l {p : Int} (hp : IsP p) : ∀ (ys pre : List S27), (pre ++ ys).length ≤ 1000 → (∀ b ∈ ys, BallWf b) → Ev (fun k => impl_areBalls.l0 k p (pre ++ ys) ((pre ++ ys).length : Int) pre.length) (decide (∀ b ∈ ys, BallOk p b)) := by
 intro ys
 induction ys with
 | nil =>
  intro pre _ _
  refine Ev.step (fun k => by rw [impl_areBalls.l0]) ?_
  simp only [List.append_nil, if_neg (Int.lt_irrefl _)]
  simp only [isPrime_eq, Option.bind_some, hp]
  exact ev_some (by simp)
 | cons b ys ih =>
  intro pre hl hw
  refine Ev.step (fun k => by rw [impl_areBalls.l0]) ?_
  have hl' : (pre ++ b :: ys).length = pre.length + (ys.length + 1) := by simp
  have h1 : (pre.length : Int) < ((pre ++ b :: ys).length : Int) := by omega
  simp only [if_pos h1, if_pos (show (0 : Int) ≤ (pre.length : Int) by omega), rd_ball_at]
  have hb := hw b (by simp)
  rw [bnd (IsBall_ev hb.1 hb.2)]
  by_cases hB : Bal p b.f0 b.f1 b.f2
  ·simp only [hp, hB, and_self, decide_true, if_true]
   have e : wrap64 ((pre.length : Int) + 1) = ((pre ++ [b]).length : Int) := by rw [wrap_id (by omega) (by omega)]; simp
   have := ih (pre ++ [b]) (by simpa using hl) (fun c hc => hw c (by simp [hc]))
   rw [e]
   simp only [List.append_assoc, List.singleton_append] at this
   refine ev_eq this ?_
   have : (∀ c ∈ b :: ys, BallOk p c) ↔ (∀ c ∈ ys, BallOk p c) := by simp [BallOk, hB]
   simp only [this]
  ·simp only [hp, hB, and_false, decide_false, if_neg Bool.false_ne_true]
   refine ev_some ?_
   symm
   rw [decide_eq_false_iff_not]
   intro hall
   exact hB (hall b (by simp))
theorem areBalls_no {p : Int} (hp : ¬ IsP p) : ∀ (ys : List S27), ys.length ≤ 1000 → (∀ b ∈ ys, BallWf b) → Ev (fun k => impl_areBalls.f k p ys) false := by
 intro ys hl hw
 unfold impl_areBalls.f
 refine Ev.step (fun k => by rw [impl_areBalls.l0]) ?_
 cases ys with
 | nil =>
  simp only [List.length_nil, if_neg (show ¬ (0 : Int) < ((0 : Nat) : Int) by omega)]
  simp only [isPrime_eq, Option.bind_some, hp]
  exact ev_some (by simp)
 | cons b ys =>
  have h1 : (0 : Int) < ((b :: ys).length : Int) := by rw [List.length_cons]; omega
  have h2 := rd_ball_at [] b ys
  simp only [List.nil_append, List.length_nil] at h2
  simp only [if_pos h1, if_pos (Int.le_refl 0)]
  have hb := hw b (by simp)
  have h3 : rd_T27 (b :: ys) 0 = b := h2
  rw [h3, bnd (IsBall_ev hb.1 hb.2)]
  simp only [hp, false_and, decide_false, if_neg Bool.false_ne_true]
  exact Ev.now _
theorem areBalls_ev {p : Int} {ys : List S27} (hl : ys.length ≤ 1000) (hw : ∀ b ∈ ys, BallWf b) : Ev (fun k => impl_areBalls.f k p ys) (decide (IsP p ∧ ∀ b ∈ ys, BallOk p b)) := by
 by_cases hp : IsP p
 ·unfold impl_areBalls.f
  refine ev_eq (areBalls_l hp ys [] (by simpa using hl) hw) (by simp [hp])
 ·refine ev_eq (areBalls_no hp ys hl hw) (by simp [hp])
theorem areBalls2 {p l t d l' t' d' : Int} (hl : -9223372036854775808 ≤ l ∧ l ≤ 9223372036854775807) (hd : -9223372036854775808 ≤ d ∧ d ≤ 9223372036854775807)
  (hl' : -9223372036854775808 ≤ l' ∧ l' ≤ 9223372036854775807) (hd' : -9223372036854775808 ≤ d' ∧ d' ≤ 9223372036854775807) :
  Ev (fun k => impl_areBalls.f k p [⟨l, t, d⟩, ⟨l', t', d'⟩]) (decide (IsP p ∧ Bal p l t d ∧ Bal p l' t' d')) := by
 refine ev_eq (areBalls_ev (by simp) (by intro b hb; simp at hb; rcases hb with rfl | rfl; exact ⟨hl, hd⟩; exact ⟨hl', hd'⟩)) ?_
 simp [BallOk]
theorem rd_at (pre : List Int) (b : Int) (ys : List Int) : rd (pre ++ b :: ys) (pre.length : Int) = b := by
 unfold rd
 simp [List.getD_eq_getElem?_getD]
theorem within_l {m : Int} (h0 : 0 ≤ m) (h1 : m ≤ 9223372036854775807) : ∀ (ys pre : List Int), (pre ++ ys).length ≤ 1000 → Ev (fun k => impl_within.l0 k m (pre ++ ys) ((pre ++ ys).length : Int) pre.length) (decide (∀ b ∈ ys, -m ≤ b ∧ b ≤ m)) := by
 intro ys
 induction ys with
 | nil =>
  intro pre _
  refine Ev.step (fun k => by rw [impl_within.l0]) ?_
  simp only [List.append_nil, if_neg (Int.lt_irrefl _)]
  exact ev_some (by simp)
 | cons b ys ih =>
  intro pre hl
  refine Ev.step (fun k => by rw [impl_within.l0]) ?_
  have hl' : (pre ++ b :: ys).length = pre.length + (ys.length + 1) := by simp
  have hlt : (pre.length : Int) < ((pre ++ b :: ys).length : Int) := by omega
  have em : wrap64 (-m) = -m := wrap_id (by omega) (by omega)
  simp only [if_pos hlt, if_pos (show (0 : Int) ≤ (pre.length : Int) by omega), rd_at, em]
  by_cases h2 : b < -m
  ·simp only [if_pos h2]
   refine ev_some ?_
   symm
   rw [decide_eq_false_iff_not]
   intro hall
   have := hall b (by simp)
   omega
  ·simp only [if_neg h2]
   by_cases h3 : b > m
   ·simp only [if_pos h3]
    refine ev_some ?_
    symm
    rw [decide_eq_false_iff_not]
    intro hall
    have := hall b (by simp)
    omega
   ·simp only [if_neg h3]
    have e : wrap64 ((pre.length : Int) + 1) = ((pre ++ [b]).length : Int) := by rw [wrap_id (by omega) (by omega)]; simp
    have := ih (pre ++ [b]) (by simpa using hl)
    rw [e]
    simp only [List.append_assoc, List.singleton_append] at this
    refine ev_eq this ?_
    have : (∀ c ∈ b :: ys, -m ≤ c ∧ c ≤ m) ↔ (∀ c ∈ ys, -m ≤ c ∧ c ≤ m) := by simp; omega
    simp only [this]
theorem within2 {m a b : Int} (h0 : 0 ≤ m) (h1 : m ≤ 9223372036854775807) : Ev (fun k => impl_within.f k m [a, b]) (decide ((-m ≤ a ∧ a ≤ m) ∧ -m ≤ b ∧ b ≤ m)) := by
 unfold impl_within.f
 refine ev_eq (within_l h0 h1 _ [] (by simp)) ?_
 simp
theorem gcd_l : ∀ (n : Nat) (a b : Int), b.natAbs ≤ n → a.natAbs ≤ 9223372036854775807 → b.natAbs ≤ 9223372036854775807 → Ev (fun k => impl_gcd.l0 k a b) (Int.gcd a b : Int) := by
 intro n
 induction n with
 | zero =>
  intro a b hb h0 h1
  obtain rfl : b = 0 := by omega
  refine Ev.step (fun k => by rw [impl_gcd.l0]) ?_
  simp only [if_true]
  refine ev_some ?_
  rw [wrap_id (by omega) (by omega), Int.gcd_zero]
  unfold mx; split <;> omega
 | succ n ih =>
  intro a b hb h0 h1
  refine Ev.step (fun k => by rw [impl_gcd.l0]) ?_
  by_cases hz : b = 0
  ·subst hz
   simp only [if_true]
   refine ev_some ?_
   rw [wrap_id (by omega) (by omega), Int.gcd_zero]
   unfold mx; split <;> omega
  ·simp only [if_neg hz]
   have hlt := tmod_natAbs_lt (a := a) hz
   refine ev_eq (ih b (Int.tmod a b) (by omega) (by omega) (by omega)) ?_
   rw [gcd_tmod]
theorem gcd_ev {a b : Int} (h0 : a.natAbs ≤ 9223372036854775807) (h1 : b.natAbs ≤ 9223372036854775807) : Ev (fun k => impl_gcd.f k a b) (Int.gcd a b : Int) := by
 unfold impl_gcd.f
 exact gcd_l b.natAbs a b (Nat.le_refl _) h0 h1
theorem l01Gcd_l : ∀ (n : Nat) (a b : Int), b.natAbs ≤ n → a.natAbs ≤ 9223372036854775807 → b.natAbs ≤ 9223372036854775807 → Ev (fun k => spec_l01Gcd.l0 k a b) (Int.gcd a b : Int) := by
 intro n
 induction n with
 | zero =>
  intro a b hb h0 h1
  obtain rfl : b = 0 := by omega
  refine Ev.step (fun k => by rw [spec_l01Gcd.l0]) ?_
  simp only [if_true]
  refine ev_some ?_
  rw [wrap_id (by omega) (by omega), Int.gcd_zero]
  unfold mx; split <;> omega
 | succ n ih =>
  intro a b hb h0 h1
  refine Ev.step (fun k => by rw [spec_l01Gcd.l0]) ?_
  by_cases hz : b = 0
  ·subst hz
   simp only [if_true]
   refine ev_some ?_
   rw [wrap_id (by omega) (by omega), Int.gcd_zero]
   unfold mx; split <;> omega
  ·simp only [if_neg hz]
   have hlt := tmod_natAbs_lt (a := a) hz
   refine ev_eq (ih b (Int.tmod a b) (by omega) (by omega) (by omega)) ?_
   rw [gcd_tmod]
theorem l01Gcd_ev {a b : Int} (h0 : a.natAbs ≤ 9223372036854775807) (h1 : b.natAbs ≤ 9223372036854775807) : Ev (fun k => spec_l01Gcd.f k a b) (Int.gcd a b : Int) := by
 unfold spec_l01Gcd.f
 exact l01Gcd_l b.natAbs a b (Nat.le_refl _) h0 h1
theorem l01Fraction_ev {n d m : Int} (h0 : 0 ≤ m) (h1 : m ≤ 9223372036854775807) : Ev (fun k => spec_l01Fraction.f k n d m) (if (-m ≤ n ∧ n ≤ m) ∧ -m ≤ d ∧ d ≤ m then (if d = 0 then 5 else 0) else 2) := by
 unfold spec_l01Fraction.f
 have em : wrap64 (-m) = -m := wrap_id (by omega) (by omega)
 simp only [l01In_eq, Option.bind_some, em]
 by_cases h2 : -m ≤ n ∧ n ≤ m
 ·simp only [h2, and_self, decide_true, if_true, true_and]
  refine Ev.step (fun k => by rw [spec_l01Fraction.j0]) ?_
  by_cases h3 : -m ≤ d ∧ d ≤ m
  ·simp only [h3, and_self, decide_true, Bool.not_true, if_neg Bool.false_ne_true, if_true]
   by_cases h4 : d = 0
   ·simp only [if_pos h4]; exact Ev.now _
   ·simp only [if_neg h4]; exact Ev.now _
  ·simp only [h3, decide_false, Bool.not_false, if_true, if_false]; exact Ev.now _
 ·simp only [h2, decide_false, if_neg Bool.false_ne_true, false_and, if_false]
  refine Ev.step (fun k => by rw [spec_l01Fraction.j0]) ?_
  simp only [if_true]; exact Ev.now _
theorem IsEnd_ev {n d : Int} : Ev (fun k => impl_IsEnd.f k n d) (decide (EndOk n d)) := by
 unfold impl_IsEnd.f EndOk
 by_cases hd : d = 0
 ·simp only [if_pos hd]
  exact ev_dec (by simp)
 ·simp only [if_neg hd]
  rw [bnd (within2 (by omega) (by omega))]
  by_cases h1 : (-1000000 ≤ n ∧ n ≤ 1000000) ∧ -1000000 ≤ d ∧ d ≤ 1000000
  ·simp only [h1, and_self, decide_true, if_true]
   by_cases h2 : d > 0
   ·simp only [if_pos h2]
    rw [bnd (gcd_ev (by omega) (by omega))]
    exact ev_dec (by simp; omega)
   ·simp only [if_neg h2]
    exact ev_dec (by simp; omega)
  ·simp only [h1, decide_false, if_neg Bool.false_ne_true]
   exact ev_dec (by simp; omega)
def ValR (p n d : Int) : Int × Int := if IsP p then (if (-100000000000000000 ≤ n ∧ n ≤ 100000000000000000) ∧ -100000000000000000 ≤ d ∧ d ≤ 100000000000000000 then (if n = 0 ∨ d = 0 then (0, 5) else ((vl p n : Int) - vl p d, 0)) else (0, 2)) else (0, 1)
theorem implValuationOf_ev {p n d : Int} : Ev (fun k => impl_ValuationOf.f k p n d) (ValR p n d) := by
 unfold impl_ValuationOf.f ValR
 simp only [isPrime_eq, Option.bind_some]
 by_cases hp : IsP p
 ·simp only [hp, decide_true, if_true]
  rw [bnd (within2 (by omega) (by omega))]
  by_cases h1 : (-100000000000000000 ≤ n ∧ n ≤ 100000000000000000) ∧ -100000000000000000 ≤ d ∧ d ≤ 100000000000000000
  ·simp only [h1, and_self, decide_true, if_true]
   by_cases h2 : n = 0
   ·simp only [if_pos h2]
    refine Ev.step (fun k => by rw [impl_ValuationOf.j0]) ?_
    simp only [if_true, h2, true_or]; exact Ev.now _
   ·simp only [if_neg h2]
    by_cases h3 : d = 0
    ·refine Ev.step (fun k => by rw [impl_ValuationOf.j0]) ?_
     simp only [h3, beq_self_eq_true, if_true, or_true]; exact Ev.now _
    ·refine Ev.step (fun k => by rw [impl_ValuationOf.j0]) ?_
     simp only [beq_eq_false_iff_ne.2 h3, if_neg Bool.false_ne_true, h2, h3, or_self, if_false]
     rw [bnd (valuation_ev hp h2 (by omega) (by omega)), bnd (valuation_ev hp h3 (by omega) (by omega))]
     have b1 := vl_le_62 hp h2 (by omega) (by omega)
     have b2 := vl_le_62 hp h3 (by omega) (by omega)
     rw [wrap_id (by omega) (by omega)]
     exact Ev.now _
  ·simp only [h1, decide_false, if_neg Bool.false_ne_true, if_false]; exact Ev.now _
 ·simp only [hp, decide_false, if_neg Bool.false_ne_true, if_false]; exact Ev.now _
theorem specValuationOf_ev {p n d : Int} : Ev (fun k => spec_ValuationOf.f k p n d) (ValR p n d) := by
 unfold spec_ValuationOf.f ValR
 simp only [l01Prime_eq, Option.bind_some]
 by_cases hp : IsP p
 ·simp only [hp, decide_true, if_true]
  rw [bnd (l01Fraction_ev (by omega) (by omega))]
  by_cases h1 : (-100000000000000000 ≤ n ∧ n ≤ 100000000000000000) ∧ -100000000000000000 ≤ d ∧ d ≤ 100000000000000000
  ·simp only [h1, and_self, if_true]
   by_cases h3 : d = 0
   ·simp only [h3, if_true, or_true, if_neg (show ¬ (5 : Int) = 0 by omega)]
    refine Ev.step (fun k => by rw [spec_ValuationOf.j0]) ?_
    simp only [if_neg Bool.false_ne_true]
    refine Ev.step (fun k => by rw [spec_ValuationOf.j1]) ?_
    simp only [if_neg (show ¬ (5 : Int) = 0 by omega)]; exact Ev.now _
   ·simp only [h3, if_false, if_true, or_false]
    refine Ev.step (fun k => by rw [spec_ValuationOf.j0]) ?_
    by_cases h2 : n = 0
    ·simp only [h2, beq_self_eq_true, if_true]
     refine Ev.step (fun k => by rw [spec_ValuationOf.j1]) ?_
     simp only [if_neg (show ¬ (5 : Int) = 0 by omega)]; exact Ev.now _
    ·simp only [beq_eq_false_iff_ne.2 h2, if_neg Bool.false_ne_true, h2, if_false]
     refine Ev.step (fun k => by rw [spec_ValuationOf.j1]) ?_
     simp only [if_true]
     rw [bnd (l01Val_ev hp h2 (by omega) (by omega)), bnd (l01Val_ev hp h3 (by omega) (by omega))]
     have b1 := vl_le_62 hp h2 (by omega) (by omega)
     have b2 := vl_le_62 hp h3 (by omega) (by omega)
     rw [wrap_id (by omega) (by omega)]
     exact Ev.now _
  ·simp only [h1, if_false, if_neg (show ¬ (2 : Int) = 0 by omega)]
   refine Ev.step (fun k => by rw [spec_ValuationOf.j0]) ?_
   simp only [if_neg Bool.false_ne_true]
   refine Ev.step (fun k => by rw [spec_ValuationOf.j1]) ?_
   simp only [if_neg (show ¬ (2 : Int) = 0 by omega)]; exact Ev.now _
 ·simp only [hp, decide_false, if_neg Bool.false_ne_true, if_false]; exact Ev.now _
theorem ed_wrap {n d : Int} (hd : d ≠ 0) (h0 : n.natAbs ≤ 9223372036854775807) (h1 : d.natAbs ≤ 9223372036854775807) : wrap64 (edN n d) = edN n d ∧ wrap64 (edD n d) = edD n d ∧ wrap64 (-edN n d) = -edN n d := by
 obtain ⟨a, b, c, e, _⟩ := ed_facts (n := n) hd
 exact ⟨wrap_id (by omega) (by omega), wrap_id (by omega) (by omega), wrap_id (by omega) (by omega)⟩
theorem endAt_ev {n d : Int} (h0 : n.natAbs ≤ 9223372036854775807) (h1 : d.natAbs ≤ 9223372036854775807) : Ev (fun k => impl_endAt.f k n d) (EAt n d) := by
 unfold impl_endAt.f EAt
 by_cases hd : d = 0
 ·simp only [if_pos hd]; exact Ev.now _
 ·simp only [if_neg hd]
  rw [bnd (gcd_ev h0 h1)]
  obtain ⟨w1, w2, _⟩ := ed_wrap (n := n) hd h0 h1
  obtain ⟨g0, _, _, g3, g4, _⟩ := edG_facts (n := n) hd
  by_cases hn : d < 0
  ·have e : wrap64 (-(Int.gcd n d : Int)) = edG n d := by
    have : edG n d = -(Int.gcd n d : Int) := by unfold edG; rw [if_pos hn]
    rw [← this]; exact wrap_id (by omega) (by omega)
   simp only [if_pos hn, e, if_neg g0]
   have w1' : wrap64 (Int.tdiv n (edG n d)) = edN n d := w1
   have w2' : wrap64 (Int.tdiv d (edG n d)) = edD n d := w2
   simp only [w1', w2']
   rw [bnd IsEnd_ev]
   exact Ev.now _
  ·have e : (Int.gcd n d : Int) = edG n d := by unfold edG; rw [if_neg hn]
   simp only [if_neg hn, e, if_neg g0]
   have w1' : wrap64 (Int.tdiv n (edG n d)) = edN n d := w1
   have w2' : wrap64 (Int.tdiv d (edG n d)) = edD n d := w2
   simp only [w1', w2']
   rw [bnd IsEnd_ev]
   exact Ev.now _
theorem mx_abs {x : Int} : mx x (-x) ≤ 1000000 ↔ -1000000 ≤ x ∧ x ≤ 1000000 := by unfold mx; split <;> omega
theorem l01EndOf_ev {n d : Int} (h0 : n.natAbs ≤ 9223372036854775807) (h1 : d.natAbs ≤ 9223372036854775807) : Ev (fun k => spec_l01EndOf.f k n d) (EAt n d) := by
 unfold spec_l01EndOf.f EAt
 by_cases hd : d = 0
 ·simp only [if_pos hd]; exact Ev.now _
 ·simp only [if_neg hd]
  rw [bnd (l01Gcd_ev h0 h1)]
  obtain ⟨w1, w2, w3⟩ := ed_wrap (n := n) hd h0 h1
  obtain ⟨g0, _, _, g3, g4, _⟩ := edG_facts (n := n) hd
  have hok := ed_ok (n := n) hd
  have w1' : wrap64 (Int.tdiv n (edG n d)) = edN n d := w1
  have w2' : wrap64 (Int.tdiv d (edG n d)) = edD n d := w2
  by_cases hn : d < 0
  ·have e : wrap64 (-(Int.gcd n d : Int)) = edG n d := by
    have : edG n d = -(Int.gcd n d : Int) := by unfold edG; rw [if_pos hn]
    rw [← this]; exact wrap_id (by omega) (by omega)
   simp only [if_pos hn, e, if_neg g0, w1', w2', w3]
   by_cases h2 : edD n d ≤ 1000000
   ·simp only [if_pos h2]
    refine ev_some ?_
    have : (mx (edN n d) (-edN n d) ≤ 1000000) ↔ EndOk (edN n d) (edD n d) := by rw [mx_abs, hok]; simp [h2]
    simp only [this]
   ·simp only [if_neg h2]
    refine ev_some ?_
    have : ¬ EndOk (edN n d) (edD n d) := by rw [hok]; simp [h2]
    simp [this]
  ·have e : (Int.gcd n d : Int) = edG n d := by unfold edG; rw [if_neg hn]
   simp only [if_neg hn, e, if_neg g0, w1', w2', w3]
   by_cases h2 : edD n d ≤ 1000000
   ·simp only [if_pos h2]
    refine ev_some ?_
    have : (mx (edN n d) (-edN n d) ≤ 1000000) ↔ EndOk (edN n d) (edD n d) := by rw [mx_abs, hok]; simp [h2]
    simp only [this]
   ·simp only [if_neg h2]
    refine ev_some ?_
    have : ¬ EndOk (edN n d) (edD n d) := by rw [hok]; simp [h2]
    simp [this]
theorem l01MulMod_eq {a b m : Int} (h0 : 0 < m) (h1 : m ≤ 100000000000) : spec_l01MulMod.f a b m = some (a * b % m) := by
 unfold spec_l01MulMod.f
 have ha := mod_between (n := a) h0
 have hb := mod_between (n := b) h0
 have ea : wrap64 (Int.tmod a m + m) = Int.tmod a m + m := wrap_id (by omega) (by omega)
 have eb : wrap64 (Int.tmod b m + m) = Int.tmod b m + m := wrap_id (by omega) (by omega)
 have a0 := Int.emod_nonneg a (Int.ne_of_gt h0)
 have a1 := Int.emod_lt_of_pos a h0
 have b0 := Int.emod_nonneg b (Int.ne_of_gt h0)
 have b1 := Int.emod_lt_of_pos b h0
 rw [if_neg (Int.ne_of_gt h0)]
 simp only [ea, eb, mod_eq h0]
 rw [Int.tmod_eq_emod_of_nonneg b0, Int.tdiv_eq_ediv_of_nonneg b0]
 have hq0 : 0 ≤ b % m / 1000000 := by omega
 have hq1 : b % m / 1000000 ≤ 100000 := by omega
 have hr0 : 0 ≤ b % m % 1000000 := by omega
 have hr1 : b % m % 1000000 ≤ 1000000 := by omega
 have eq : wrap64 (b % m / 1000000) = b % m / 1000000 := wrap_id (by omega) (by omega)
 rw [eq]
 have p1 : 0 ≤ a % m * (b % m / 1000000) := Int.mul_nonneg a0 hq0
 have p2 : a % m * (b % m / 1000000) ≤ 100000000000 * 100000 := Int.mul_le_mul (by omega) hq1 hq0 (by omega)
 have p3 : 0 ≤ a % m * (b % m % 1000000) := Int.mul_nonneg a0 hr0
 have p4 : a % m * (b % m % 1000000) ≤ 100000000000 * 1000000 := Int.mul_le_mul (by omega) hr1 hr0 (by omega)
 rw [wrap_id (x := a % m * (b % m / 1000000)) (by omega) (by omega), wrap_id (x := a % m * (b % m % 1000000)) (by omega) (by omega)]
 rw [Int.tmod_eq_emod_of_nonneg p1, Int.tmod_eq_emod_of_nonneg p3]
 have c0 := Int.emod_nonneg (a % m * (b % m / 1000000)) (Int.ne_of_gt h0)
 have c1 := Int.emod_lt_of_pos (a % m * (b % m / 1000000)) h0
 have d0 := Int.emod_nonneg (a % m * (b % m % 1000000)) (Int.ne_of_gt h0)
 have d1 := Int.emod_lt_of_pos (a % m * (b % m % 1000000)) h0
 rw [wrap_id (x := a % m * (b % m / 1000000) % m * 1000000) (by omega) (by omega)]
 have e0 : 0 ≤ a % m * (b % m / 1000000) % m * 1000000 := by omega
 rw [Int.tmod_eq_emod_of_nonneg e0]
 have f0 := Int.emod_nonneg (a % m * (b % m / 1000000) % m * 1000000) (Int.ne_of_gt h0)
 have f1 := Int.emod_lt_of_pos (a % m * (b % m / 1000000) % m * 1000000) h0
 rw [wrap_id (by omega) (by omega), Int.tmod_eq_emod_of_nonneg (by omega), mulmod_eq]
theorem l01InvMod_l {n m : Int} (hm : 0 < m) (hm' : m ≤ 1000000000000) : ∀ (k : Nat) (a b : Nat) (x y : Int), b ≤ k → Euc n m a b x y → (a : Int) ≤ 1000000000000 → (b : Int) ≤ 1000000000000 →
  ∃ r, Ev (fun k => spec_l01InvMod.l0 k m a b x y) r ∧ 0 ≤ r ∧ r < m ∧ m ∣ r * n - 1 := by
 intro k
 induction k with
 | zero =>
  intro a b x y hb he ha1 hb1
  obtain rfl : b = 0 := by omega
  have hl := he.last
  have hbd := he.bounds
  refine ⟨x % m, ?_, Int.emod_nonneg _ (Int.ne_of_gt hm), Int.emod_lt_of_pos _ hm, ?_⟩
  ·refine Ev.step (fun k => by rw [spec_l01InvMod.l0]) ?_
   have hx := mod_between (n := x) hm
   rw [wrap_id (x := Int.tmod x m + m) (by omega) (by omega), mod_eq hm]
   simp only [Int.natCast_zero, if_true, if_neg (Int.ne_of_gt hm)]
   exact Ev.now _
  ·have h1 := dvd_emod_sub x m
   have h2 : x % m * n - 1 = (x % m - x) * n + (x * n - 1) := by rw [Int.sub_mul]; omega
   rw [h2]
   exact Int.dvd_add (Int.dvd_trans h1 (Int.dvd_mul_right _ _)) hl
 | succ k ih =>
  intro a b x y hb he ha1 hb1
  by_cases hz : b = 0
  ·exact ih a b x y (by omega) he ha1 hb1
  ·have hnx := he.next (by omega)
   obtain ⟨r, hr, h0, h1, h2⟩ := ih b (a % b) y (x - (a / b : Nat) * y) (by have := Nat.mod_lt a (show 0 < b by omega); omega) hnx hb1 (by have := Nat.mod_lt a (show 0 < b by omega); omega)
   refine ⟨r, ?_, h0, h1, h2⟩
   refine Ev.step (fun k => by rw [spec_l01InvMod.l0]) ?_
   suffices hs : wrap64 (Int.tdiv (a : Int) b) = (a / b : Nat) ∧ wrap64 ((a : Int) - wrap64 ((a / b : Nat) * (b : Int))) = (a % b : Nat) ∧ wrap64 (x - wrap64 ((a / b : Nat) * y)) = x - (a / b : Nat) * y by
    simp only [if_neg (show ¬ (b : Int) = 0 by omega), hs.1, hs.2.1, hs.2.2]
    exact hr
   have hbd := he.bounds
   have hbd2 := hnx.bounds
   have hbz : ¬ (b : Int) = 0 := by omega
   have eq : Int.tdiv (a : Int) b = (a / b : Nat) := by rw [Int.tdiv_eq_ediv_of_nonneg (by omega), Int.natCast_ediv]
   have hdm := Nat.div_add_mod a b
   have hle := Nat.div_le_self a b
   have hmod := Nat.mod_le a b
   have hprod : ((a / b : Nat) : Int) * b = a - (a % b : Nat) := by
    have : ((b * (a / b) + a % b : Nat) : Int) = (a : Int) := by rw [hdm]
    rw [Int.natCast_add, Int.natCast_mul, Int.mul_comm (b : Int)] at this
    omega
   rw [eq]
   exact euc_wraps hle hmod hprod (by omega) hm hm' hbd hbd2
theorem l01InvMod_ev {p n : Int} (h : IsP p) {e : Nat} (he : e ≤ 14) (hn : ¬ p ∣ n) :
  ∃ r, Ev (fun k => spec_l01InvMod.f k n (p ^ e)) r ∧ 0 ≤ r ∧ r < p ^ e ∧ p ^ e ∣ r * n - 1 := by
 have h0 := pow_pos' h e
 have h7 := pow_le_seven h (m := e) (n := 14) (by omega)
 have e14 : (7 : Int) ^ 14 = 678223072849 := by decide
 have hb := mod_between (n := n) h0
 have hst := Euc.start (n := n) h0 (coprime_start h hn e)
 have hr0 := Int.emod_nonneg n (Int.ne_of_gt h0)
 have hr1 := Int.emod_lt_of_pos n h0
 obtain ⟨r, hr, a, b, c⟩ := l01InvMod_l h0 (by omega) _ _ _ _ _ (Nat.le_refl _) hst (by omega) (by omega)
 refine ⟨r, ?_, a, b, c⟩
 unfold spec_l01InvMod.f
 simp only [if_neg (Int.ne_of_gt h0)]
 rw [wrap_id (x := Int.tmod n (p ^ e) + p ^ e) (by omega) (by omega), mod_eq h0]
 rw [Int.toNat_of_nonneg hr0, Int.toNat_of_nonneg (by omega)] at hr
 exact hr
theorem l01Of_ev {p num den level x : Int} (h : IsP p) (l0 : -6 ≤ level) (l1 : level ≤ 6) (hden : den ≠ 0)
  (n0 : -4000000000000000000 ≤ num ∧ num ≤ 4000000000000000000) (d0 : -4000000000000000000 ≤ den ∧ den ≤ 4000000000000000000)
  (hx : p ^ ((level + 6).toNat + vl p den) ∣ x * den - num * p ^ 6) (hfit : num = 0 ∨ vl p den ≤ vl p num + 6) :
  Ev (fun k => spec_l01Of.f k p num den level) (level, ofMt p level x, (ofMd p level x : Int), true) := by
 unfold spec_l01Of.f
 simp only [l01In_eq, Option.bind_some, show (-6 ≤ level ∧ level ≤ 6) from ⟨l0, l1⟩, and_self, decide_true, if_true]
 by_cases hz : num = 0
 ·obtain ⟨h1, h2⟩ := of_low h hden hx (.inl hz) l0
  simp only [if_pos hz, h1, h2]
  exact Ev.now _
 ·simp only [if_neg hz]
  have b1 := vl_le_62 h hz (by omega) (by omega)
  have b2 := vl_le_62 h hden (by omega) (by omega)
  rw [bnd (l01Val_ev h hz (by omega) (by omega)), bnd (l01Val_ev h hden (by omega) (by omega))]
  have e1 : wrap64 ((vl p num : Int) - vl p den) = (vl p num : Int) - vl p den := wrap_id (by omega) (by omega)
  have e2 : wrap64 ((vl p den : Int) - vl p num) = (vl p den : Int) - vl p num := wrap_id (by omega) (by omega)
  simp only [e1, e2]
  by_cases hlow : level ≤ (vl p num : Int) - vl p den
  ·obtain ⟨h1, h2⟩ := of_low h hden hx (.inr (by omega)) l0
   simp only [if_pos hlow, h1, h2]
   exact Ev.now _
  ·have hfit' : vl p den ≤ vl p num + 6 := by rcases hfit with h1 | h1; exact absurd h1 hz; exact h1
   have e3 : mx ((vl p den : Int) - vl p num) 0 = ((vl p den - vl p num : Nat) : Int) := by unfold mx; split <;> omega
   have e4 : mx ((vl p num : Int) - vl p den) 0 = ((vl p num - vl p den : Nat) : Int) := by unfold mx; split <;> omega
   have e5 : wrap64 (level + ((vl p den - vl p num : Nat) : Int)) = level + ((vl p den - vl p num : Nat) : Int) := wrap_id (by omega) (by omega)
   simp only [if_neg hlow, e3, e4, e5, if_neg (show ¬ ((vl p den - vl p num : Nat) : Int) > 6 by omega)]
   obtain ⟨un, hun, hund, _⟩ := vl_split h num hz
   obtain ⟨ud, hud, hudd, _⟩ := vl_split h den hden
   rw [bnd (l01Power_ev h (by omega)), bnd (l01Power_any h hz (by omega) (by omega))]
   simp only [if_neg (pow_ne' h _)]
   rw [bnd (l01Power_any h hden (by omega) (by omega))]
   simp only [if_neg (pow_ne' h _)]
   have q1 : Int.tdiv num (p ^ vl p num) = un := by
    conv => lhs; arg 1; rw [hun]
    exact tdiv_mul_left (pow_ne' h _)
   have q2 : Int.tdiv den (p ^ vl p den) = ud := by
    conv => lhs; arg 1; rw [hud]
    exact tdiv_mul_left (pow_ne' h _)
   have c1 := tdiv_bounds (n := num) (m := p ^ vl p num)
   have c2 := tdiv_bounds (n := den) (m := p ^ vl p den)
   rw [q1] at c1
   rw [q2] at c2
   simp only [q1, q2, wrap_id (x := un) (by omega) (by omega), wrap_id (x := ud) (by omega) (by omega)]
   have h12 := pow_le_seven h (m := (level + ((vl p den - vl p num : Nat) : Int)).toNat) (n := 12) (by omega)
   have e12 : (7 : Int) ^ 12 = 13841287201 := by decide
   have hpp := pow_pos' h (level + ((vl p den - vl p num : Nat) : Int)).toNat
   obtain ⟨inv, hinv, _, _, hid⟩ := l01InvMod_ev h (n := ud) (e := (level + ((vl p den - vl p num : Nat) : Int)).toNat) (by omega) hudd
   rw [bnd hinv]
   simp only [l01MulMod_eq hpp (by omega), Option.bind_some]
   rw [bnd (l01Power_ev h (by omega))]
   have hx' : p ^ ((level + 6).toNat + vl p den) ∣ x * (p ^ vl p den * ud) - p ^ vl p num * un * p ^ 6 := by
    rw [← hun, ← hud]; exact hx
   obtain ⟨h1, h2⟩ := of_high h l0 l1 hund hudd hx' (by omega) hfit' hid
   rw [h1, h2]
   simp only [Int.toNat_natCast]
   exact Ev.now _
theorem l01Of_no {p num den level : Int} (h : IsP p) (l0 : -6 ≤ level) (l1 : level ≤ 6) (hden : den ≠ 0) (hnum : num ≠ 0)
  (n0 : -4000000000000000000 ≤ num ∧ num ≤ 4000000000000000000) (d0 : -4000000000000000000 ≤ den ∧ den ≤ 4000000000000000000) (hfit : vl p num + 6 < vl p den) :
  Ev (fun k => spec_l01Of.f k p num den level) (0, 0, 0, false) := by
 unfold spec_l01Of.f
 simp only [l01In_eq, Option.bind_some, show (-6 ≤ level ∧ level ≤ 6) from ⟨l0, l1⟩, and_self, decide_true, if_true, if_neg hnum]
 have b1 := vl_le_62 h hnum (by omega) (by omega)
 have b2 := vl_le_62 h hden (by omega) (by omega)
 rw [bnd (l01Val_ev h hnum (by omega) (by omega)), bnd (l01Val_ev h hden (by omega) (by omega))]
 have e1 : wrap64 ((vl p num : Int) - vl p den) = (vl p num : Int) - vl p den := wrap_id (by omega) (by omega)
 have e2 : wrap64 ((vl p den : Int) - vl p num) = (vl p den : Int) - vl p num := wrap_id (by omega) (by omega)
 have e3 : mx ((vl p den : Int) - vl p num) 0 = ((vl p den - vl p num : Nat) : Int) := by unfold mx; split <;> omega
 simp only [e1, e2, e3, if_neg (show ¬ level ≤ (vl p num : Int) - vl p den by omega), if_pos (show ((vl p den - vl p num : Nat) : Int) > 6 by omega)]
 exact Ev.now _
theorem l01Of_out {p num den level : Int} (hl : ¬ (-6 ≤ level ∧ level ≤ 6)) : Ev (fun k => spec_l01Of.f k p num den level) (0, 0, 0, false) := by
 unfold spec_l01Of.f
 simp only [l01In_eq, Option.bind_some, hl, decide_false, if_neg Bool.false_ne_true]
 exact Ev.now _
theorem l01Of_pow {p t d level : Int} (h : IsP p) (hd : 0 ≤ d ∧ d ≤ 6) (n0 : -4000000000000000000 ≤ t ∧ t ≤ 4000000000000000000) :
  Ev (fun k => spec_l01Of.f k p t (p ^ d.toNat) level) (if -6 ≤ level ∧ level ≤ 6 then (level, ofMt p level (mk p t d), (ofMd p level (mk p t d) : Int), true) else (0, 0, 0, false)) := by
 by_cases hl : -6 ≤ level ∧ level ≤ 6
 ·rw [if_pos hl]
  have h0 := pow_pos' h d.toNat
  have h1 := pow_le_22 h (n := d.toNat) (by omega)
  refine l01Of_ev h hl.1 hl.2 (by omega) n0 (by omega) ?_ (.inr (by rw [vl_pow h]; omega))
  have e : mk p t d * p ^ d.toNat - t * p ^ 6 = 0 := by
   unfold mk
   rw [Int.mul_assoc, ← Int.pow_add]
   have : (6 - d).toNat + d.toNat = 6 := by omega
   rw [this]; omega
  rw [e]; exact Int.dvd_zero _
 ·rw [if_neg hl]
  exact l01Of_out hl
theorem mk_bound {p t d : Int} (h : IsP p) (hd : 0 ≤ d) (ht : -13841287201 ≤ t ∧ t ≤ 13841287201) : -1628413597910449 ≤ mk p t d ∧ mk p t d ≤ 1628413597910449 := by
 unfold mk
 have h0 := pow_pos' h (6 - d).toNat
 have h1 := pow_le_seven h (m := (6 - d).toNat) (n := 6) (by omega)
 have e : (7 : Int) ^ 6 = 117649 := by decide
 rw [e] at h1
 rcases Int.le_total 0 t with h2 | h2
 ·have a := Int.mul_le_mul ht.2 h1 (Int.le_of_lt h0) (by omega)
  have b := Int.mul_nonneg h2 (Int.le_of_lt h0)
  omega
 ·have a := Int.mul_le_mul (show -t ≤ 13841287201 by omega) h1 (Int.le_of_lt h0) (by omega)
  have b := Int.mul_nonneg (show 0 ≤ -t by omega) (Int.le_of_lt h0)
  rw [Int.neg_mul] at a b
  omega
theorem mark_ev {p l t d : Int} (h : IsP p) (hb : Bal p l t d) : Ev (fun k => impl_mark.f k p l t d) (mk p t d) := by
 unfold impl_mark.f
 have hs := hb.small h
 have hd : 0 ≤ d ∧ d ≤ 6 := by unfold Bal at hb; omega
 have hm := mk_bound h hd.1 (t := t) (by omega)
 have e : wrap64 (6 - d) = 6 - d := wrap_id (by omega) (by omega)
 simp only [e]
 rw [bnd (power_ev h (by omega))]
 exact ev_some (wrap_id (x := mk p t d) (by omega) (by omega))
theorem mark_le {p l t d : Int} (h : IsP p) (hb : Bal p l t d) : 0 ≤ mk p t d ∧ mk p t d < 13841287201 := by
 have hm := hb.mark h
 have h1 := pow_le_seven h (m := (l + 6).toNat) (n := 12) (by unfold Bal at hb; omega)
 have e : (7 : Int) ^ 12 = 13841287201 := by decide
 omega
theorem ofMark_ev {p level x : Int} (h : IsP p) (hx : -4000000000000000000 ≤ x ∧ x ≤ 4000000000000000000) :
  Ev (fun k => impl_ofMark.f k p level x) (if -6 ≤ level ∧ level ≤ 6 then (level, ofMt p level x, (ofMd p level x : Int), true) else (0, 0, 0, false)) := by
 unfold impl_ofMark.f
 simp only [isLevel_eq, Option.bind_some]
 by_cases hl : -6 ≤ level ∧ level ≤ 6
 ·have e : wrap64 (level + 6) = level + 6 := wrap_id (by omega) (by omega)
  simp only [hl, and_self, decide_true, if_true, e]
  rw [bnd (power_ev h (by omega))]
  have h0 := pow_pos' h (level + 6).toNat
  have h1 := pow_le_seven h (m := (level + 6).toNat) (n := 12) (by omega)
  have e12 : (7 : Int) ^ 12 = 13841287201 := by decide
  simp only [mod_ev h0 (by omega), Option.bind_some]
  have y0 := Int.emod_nonneg x (Int.ne_of_gt h0)
  have y1 := Int.emod_lt_of_pos x h0
  rw [bnd (valuation_any h (by omega) (by omega))]
  have hvx : vx p (x % p ^ (level + 6).toNat) ≤ 1000 ∧ 0 ≤ vx p (x % p ^ (level + 6).toNat) := by
   unfold vx
   split
   ·omega
   ·rename_i hz
    have := vl_le_62 h hz (by omega) (by omega)
    omega
  have e2 : wrap64 (6 - vx p (x % p ^ (level + 6).toNat)) = 6 - vx p (x % p ^ (level + 6).toNat) := wrap_id (by omega) (by omega)
  have e3 : mx (6 - vx p (x % p ^ (level + 6).toNat)) 0 = (ofMd p level x : Int) := by
   unfold vx ofMd mx
   by_cases hz : x % p ^ (level + 6).toNat = 0
   ·simp only [if_pos hz]; omega
   ·simp only [if_neg hz]; split <;> omega
  have hd6 := ofMd_le p level x
  have e4 : wrap64 (6 - (ofMd p level x : Int)) = 6 - (ofMd p level x : Int) := wrap_id (by omega) (by omega)
  simp only [e2, e3, e4]
  rw [bnd (power_ev h (by omega))]
  have e5 : (6 - (ofMd p level x : Int)).toNat = 6 - ofMd p level x := by omega
  simp only [if_neg (pow_ne' h _), e5]
  have hq := tdiv_bounds (n := x % p ^ (level + 6).toNat) (m := p ^ (6 - ofMd p level x))
  rw [wrap_id (by omega) (by omega)]
  have e6 : Int.tdiv (x % p ^ (level + 6).toNat) (p ^ (6 - ofMd p level x)) = ofMt p level x := by
   unfold ofMt
   exact Int.tdiv_eq_ediv_of_nonneg y0
  rw [e6]
  exact Ev.now _
 ·simp only [hl, decide_false, if_neg Bool.false_ne_true, if_false]
  exact Ev.now _
def ParR (p l t d : Int) : Int × Int × Int × Bool := if -6 ≤ l - 1 ∧ l - 1 ≤ 6 then (l - 1, ofMt p (l - 1) (mk p t d), (ofMd p (l - 1) (mk p t d) : Int), true) else (0, 0, 0, false)
theorem l01Parent_ev {p l t d : Int} (h : IsP p) (hb : Bal p l t d) : Ev (fun k => spec_l01Parent.f k p l t d) (ParR p l t d) := by
 unfold spec_l01Parent.f ParR
 have hs := hb.small h
 have hr : -6 ≤ l ∧ l ≤ 6 ∧ 0 ≤ d ∧ d ≤ 6 := by unfold Bal at hb; omega
 have e : wrap64 (l - 1) = l - 1 := wrap_id (by omega) (by omega)
 simp only [e]
 rw [bnd (l01Power_ev h (by omega)), bnd (l01Of_pow h (by omega) (by omega))]
 exact Ev.now _
def fitR (r : Int × Int × Int × Bool) : Int × Int × Int × Int := if r.2.2.2 = true then (r.1, r.2.1, r.2.2.1, 0) else (0, 0, 0, 3)
theorem fitted_eq (r : Int × Int × Int × Bool) : impl_fitted.f r.1 r.2.1 r.2.2.1 r.2.2.2 = some (fitR r) := by
 unfold impl_fitted.f fitR
 split <;> rfl
theorem holds_ev {p l t d l' t' d' : Int} (h : IsP p) (hb : Bal p l t d) (hb' : Bal p l' t' d') : Ev (fun k => impl_holds.f k p l t d l' t' d') (decide (HoldsP p l t d l' t' d')) := by
 unfold impl_holds.f HoldsP
 have hm := mark_le h hb
 have hm' := mark_le h hb'
 have hr : -6 ≤ l ∧ l ≤ 6 := by unfold Bal at hb; omega
 by_cases hle : l ≤ l'
 ·simp only [if_pos hle]
  rw [bnd (mark_ev h hb'), bnd (mark_ev h hb), wrap_id (x := l + 6) (by omega) (by omega), bnd (power_ev h (by omega))]
  simp only [if_neg (pow_ne' h _)]
  rw [wrap_id (by omega) (by omega)]
  exact ev_dec (by simp [hle, tmod_zero_iff])
 ·simp only [if_neg hle]
  exact ev_dec (by simp [hle])
theorem l01Holds_ev {p l t d l' t' d' : Int} (h : IsP p) (hb : Bal p l t d) (hb' : Bal p l' t' d') : Ev (fun k => spec_l01Holds.f k p l t d l' t' d') (decide (HoldsP p l t d l' t' d')) := by
 unfold spec_l01Holds.f HoldsP
 have hs := hb'.small h
 have hr : -6 ≤ l ∧ l ≤ 6 := by unfold Bal at hb; omega
 have hd : 0 ≤ d' ∧ d' ≤ 6 := by unfold Bal at hb'; omega
 by_cases hle : l > l'
 ·simp only [if_pos hle]
  exact ev_dec (by simp; omega)
 ·simp only [if_neg hle]
  rw [bnd (l01Power_ev h (by omega)), bnd (l01Of_pow h hd (by omega))]
  simp only [hr, and_self, if_true]
  refine ev_dec ?_
  have := holds_iff_own (lc := l') (tc := t') (dc := d') h hb
  rw [← this]
  simp; omega
def HoldsR (p la ta da lb tb db : Int) : Bool × Int := if IsP p ∧ Bal p la ta da ∧ Bal p lb tb db then (decide (HoldsP p la ta da lb tb db), 0) else (false, 1)
theorem implHoldsBall_ev {p l t d l' t' d' : Int} (hl : -9223372036854775808 ≤ l ∧ l ≤ 9223372036854775807) (hd : -9223372036854775808 ≤ d ∧ d ≤ 9223372036854775807)
  (hl' : -9223372036854775808 ≤ l' ∧ l' ≤ 9223372036854775807) (hd' : -9223372036854775808 ≤ d' ∧ d' ≤ 9223372036854775807) : Ev (fun k => impl_HoldsBall.f k p l t d l' t' d') (HoldsR p l t d l' t' d') := by
 unfold impl_HoldsBall.f HoldsR
 rw [bnd (areBalls2 hl hd hl' hd')]
 by_cases h : IsP p ∧ Bal p l t d ∧ Bal p l' t' d'
 ·simp only [h, and_self, decide_true, if_true]
  rw [bnd (holds_ev h.1 h.2.1 h.2.2)]
  exact Ev.now _
 ·simp only [h, decide_false, if_neg Bool.false_ne_true, if_false]; exact Ev.now _
theorem specHoldsBall_ev {p l t d l' t' d' : Int} (hl : -9223372036854775808 ≤ l ∧ l ≤ 9223372036854775807) (hd : -9223372036854775808 ≤ d ∧ d ≤ 9223372036854775807)
  (hl' : -9223372036854775808 ≤ l' ∧ l' ≤ 9223372036854775807) (hd' : -9223372036854775808 ≤ d' ∧ d' ≤ 9223372036854775807) : Ev (fun k => spec_HoldsBall.f k p l t d l' t' d') (HoldsR p l t d l' t' d') := by
 unfold spec_HoldsBall.f HoldsR
 rw [bnd (l01Code2 hl hd hl' hd')]
 by_cases h : IsP p ∧ Bal p l t d ∧ Bal p l' t' d'
 ·simp only [h, and_self, if_true]
  rw [bnd (l01Holds_ev h.1 h.2.1 h.2.2)]
  exact Ev.now _
 ·simp only [h, if_false, if_neg (show ¬ (1 : Int) = 0 by omega)]; exact Ev.now _
def ApartR (p la ta da lb tb db : Int) : Bool × Int := if IsP p ∧ Bal p la ta da ∧ Bal p lb tb db then (decide (¬ HoldsP p la ta da lb tb db ∧ ¬ HoldsP p lb tb db la ta da), 0) else (false, 1)
theorem implAreApart_ev {p l t d l' t' d' : Int} (hl : -9223372036854775808 ≤ l ∧ l ≤ 9223372036854775807) (hd : -9223372036854775808 ≤ d ∧ d ≤ 9223372036854775807)
  (hl' : -9223372036854775808 ≤ l' ∧ l' ≤ 9223372036854775807) (hd' : -9223372036854775808 ≤ d' ∧ d' ≤ 9223372036854775807) : Ev (fun k => impl_AreApart.f k p l t d l' t' d') (ApartR p l t d l' t' d') := by
 unfold impl_AreApart.f ApartR
 rw [bnd (areBalls2 hl hd hl' hd')]
 by_cases h : IsP p ∧ Bal p l t d ∧ Bal p l' t' d'
 ·simp only [h, and_self, decide_true, if_true]
  unfold impl_apart.f
  simp only [Option.bind_assoc]
  rw [bnd (holds_ev h.1 h.2.1 h.2.2)]
  by_cases h2 : HoldsP p l t d l' t' d'
  ·simp only [h2, decide_true, if_true, Option.bind_some]
   exact ev_some (by simp)
  ·simp only [h2, decide_false, if_neg Bool.false_ne_true, Option.bind_assoc, Option.bind_some]
   rw [bnd (holds_ev h.1 h.2.2 h.2.1)]
   exact ev_some (by simp)
 ·simp only [h, decide_false, if_neg Bool.false_ne_true, if_false]; exact Ev.now _
theorem specAreApart_ev {p l t d l' t' d' : Int} (hl : -9223372036854775808 ≤ l ∧ l ≤ 9223372036854775807) (hd : -9223372036854775808 ≤ d ∧ d ≤ 9223372036854775807)
  (hl' : -9223372036854775808 ≤ l' ∧ l' ≤ 9223372036854775807) (hd' : -9223372036854775808 ≤ d' ∧ d' ≤ 9223372036854775807) : Ev (fun k => spec_AreApart.f k p l t d l' t' d') (ApartR p l t d l' t' d') := by
 unfold spec_AreApart.f ApartR
 rw [bnd (l01Code2 hl hd hl' hd')]
 by_cases h : IsP p ∧ Bal p l t d ∧ Bal p l' t' d'
 ·simp only [h, and_self, if_true]
  rw [bnd (l01Holds_ev h.1 h.2.1 h.2.2)]
  by_cases h2 : HoldsP p l t d l' t' d'
  ·simp only [h2, decide_true, if_true]
   exact ev_some (by simp)
  ·simp only [h2, decide_false, if_neg Bool.false_ne_true]
   rw [bnd (l01Holds_ev h.1 h.2.2 h.2.1)]
   exact ev_some (by simp)
 ·simp only [h, if_false, if_neg (show ¬ (1 : Int) = 0 by omega)]; exact Ev.now _
def CentreR (p l t d : Int) : Int × Int × Int := if IsP p ∧ Bal p l t d then (if (EAt t (p ^ d.toNat)).2.2 = true then ((EAt t (p ^ d.toNat)).1, (EAt t (p ^ d.toNat)).2.1, 0) else (0, 0, 3)) else (0, 0, 1)
theorem implCentreOf_ev {p l t d : Int} (hl : -9223372036854775808 ≤ l ∧ l ≤ 9223372036854775807) (hd : -9223372036854775808 ≤ d ∧ d ≤ 9223372036854775807) : Ev (fun k => impl_CentreOf.f k p l t d) (CentreR p l t d) := by
 unfold impl_CentreOf.f CentreR
 rw [bnd (IsBall_ev hl hd)]
 by_cases h : IsP p ∧ Bal p l t d
 ·have hs := h.2.small h.1
  have hr : 0 ≤ d ∧ d ≤ 6 := by have := h.2; unfold Bal at this; omega
  have h0 := pow_pos' h.1 d.toNat
  have h1 := pow_le_22 h.1 (n := d.toNat) (by omega)
  simp only [h, and_self, decide_true, if_true]
  rw [bnd (power_ev h.1 (by omega)), bnd (endAt_ev (by omega) (by omega))]
  unfold impl_fittedEnd.f
  by_cases h2 : (EAt t (p ^ d.toNat)).2.2 = true
  ·simp only [if_pos h2, Option.bind_some]; exact Ev.now _
  ·simp only [if_neg h2, Option.bind_some]; exact Ev.now _
 ·simp only [h, decide_false, if_neg Bool.false_ne_true, if_false]; exact Ev.now _
theorem specCentreOf_ev {p l t d : Int} (hl : -9223372036854775808 ≤ l ∧ l ≤ 9223372036854775807) (hd : -9223372036854775808 ≤ d ∧ d ≤ 9223372036854775807) : Ev (fun k => spec_CentreOf.f k p l t d) (CentreR p l t d) := by
 unfold spec_CentreOf.f CentreR
 rw [bnd (l01Code1 hl hd)]
 by_cases h : IsP p ∧ Bal p l t d
 ·have hs := h.2.small h.1
  have hr : 0 ≤ d ∧ d ≤ 6 := by have := h.2; unfold Bal at this; omega
  have h0 := pow_pos' h.1 d.toNat
  have h1 := pow_le_22 h.1 (n := d.toNat) (by omega)
  simp only [h, and_self, if_true]
  rw [bnd (l01Power_ev h.1 (by omega)), bnd (l01EndOf_ev (by omega) (by omega))]
  by_cases h2 : (EAt t (p ^ d.toNat)).2.2 = true
  ·simp only [if_pos h2]; exact Ev.now _
  ·simp only [if_neg h2]; exact Ev.now _
 ·simp only [h, if_false, if_neg (show ¬ (1 : Int) = 0 by omega)]; exact Ev.now _
theorem near_parts {p l t d num den : Int} (h : IsP p) (hb : Bal p l t d) (hn : -1000000 ≤ num ∧ num ≤ 1000000) (hd : -1000000 ≤ den ∧ den ≤ 1000000) :
  wrap64 (num * p ^ 6) = num * p ^ 6 ∧ wrap64 (mk p t d * den) = mk p t d * den ∧ wrap64 (num * p ^ 6 - mk p t d * den) = num * p ^ 6 - mk p t d * den ∧ -20000000000000000 ≤ num * p ^ 6 - mk p t d * den ∧ num * p ^ 6 - mk p t d * den ≤ 20000000000000000 := by
 have hm := mark_le h hb
 have h0 := pow_pos' h 6
 have h1 := pow_le_seven h (m := 6) (n := 6) (Nat.le_refl _)
 have e6 : (7 : Int) ^ 6 = 117649 := by decide
 rw [e6] at h1
 have a : -117649000000 ≤ num * p ^ 6 ∧ num * p ^ 6 ≤ 117649000000 := by
  rcases Int.le_total 0 num with h2 | h2
  ·have a := Int.mul_le_mul hn.2 h1 (Int.le_of_lt h0) (by omega)
   have b := Int.mul_nonneg h2 (Int.le_of_lt h0)
   omega
  ·have a := Int.mul_le_mul (show -num ≤ 1000000 by omega) h1 (Int.le_of_lt h0) (by omega)
   have b := Int.mul_nonneg (show 0 ≤ -num by omega) (Int.le_of_lt h0)
   rw [Int.neg_mul] at a b
   omega
 have b : -13841287201000000 ≤ mk p t d * den ∧ mk p t d * den ≤ 13841287201000000 := by
  rcases Int.le_total 0 den with h2 | h2
  ·have a := Int.mul_le_mul (show mk p t d ≤ 13841287201 by omega) hd.2 h2 (by omega)
   have b := Int.mul_nonneg hm.1 h2
   omega
  ·have a := Int.mul_le_mul (show mk p t d ≤ 13841287201 by omega) (show -den ≤ 1000000 by omega) (by omega) (by omega)
   have b := Int.mul_nonneg hm.1 (show 0 ≤ -den by omega)
   rw [Int.mul_neg] at a b
   omega
 exact ⟨wrap_id (by omega) (by omega), wrap_id (by omega) (by omega), wrap_id (by omega) (by omega), by omega, by omega⟩
theorem nearness_ev {p l t d num den : Int} (h : IsP p) (hb : Bal p l t d) (hn : -1000000 ≤ num ∧ num ≤ 1000000) (hd : -1000000 ≤ den ∧ den ≤ 1000000) (hz : den ≠ 0) : Ev (fun k => impl_nearness.f k p l t d num den) (nn p t d num den) := by
 unfold impl_nearness.f nn
 obtain ⟨e1, e2, e3, b1, b2⟩ := near_parts h hb hn hd
 have p6 := power_ev h (n := 6) (by omega)
 rw [show (6 : Int).toNat = 6 from rfl] at p6
 rw [bnd p6, bnd (mark_ev h hb), e1, e2, e3]
 by_cases h0 : num * p ^ 6 - mk p t d * den = 0
 ·simp only [if_pos h0]; exact Ev.now _
 ·have v1 := vl_le_62 h h0 (by omega) (by omega)
  have v2 := vl_le_62 h hz (by omega) (by omega)
  simp only [if_neg h0]
  rw [bnd (valuation_ev h h0 (by omega) (by omega)), bnd (valuation_ev h hz (by omega) (by omega))]
  rw [wrap_id (x := (vl p (num * p ^ 6 - mk p t d * den) : Int) - vl p den) (by omega) (by omega), wrap_id (by omega) (by omega)]
  exact Ev.now _
def HoldsFR (p l t d num den : Int) : Bool × Int := if IsP p ∧ Bal p l t d then (if (-1000000 ≤ num ∧ num ≤ 1000000) ∧ -1000000 ≤ den ∧ den ≤ 1000000 then (if den = 0 then (false, 5) else (decide (nn p t d num den ≥ l), 0)) else (false, 2)) else (false, 1)
theorem implHoldsFraction_ev {p l t d num den : Int} (hl : -9223372036854775808 ≤ l ∧ l ≤ 9223372036854775807) (hd : -9223372036854775808 ≤ d ∧ d ≤ 9223372036854775807) : Ev (fun k => impl_HoldsFraction.f k p l t d num den) (HoldsFR p l t d num den) := by
 unfold impl_HoldsFraction.f HoldsFR
 rw [bnd (IsBall_ev hl hd)]
 by_cases h : IsP p ∧ Bal p l t d
 ·simp only [h, and_self, decide_true, if_true]
  rw [bnd (within2 (by omega) (by omega))]
  by_cases h1 : (-1000000 ≤ num ∧ num ≤ 1000000) ∧ -1000000 ≤ den ∧ den ≤ 1000000
  ·simp only [h1, and_self, decide_true, if_true]
   by_cases hz : den = 0
   ·simp only [if_pos hz]; exact Ev.now _
   ·simp only [if_neg hz]
    rw [bnd (nearness_ev h.1 h.2 h1.1 h1.2 hz)]
    exact Ev.now _
  ·simp only [h1, decide_false, if_neg Bool.false_ne_true, if_false]; exact Ev.now _
 ·simp only [h, decide_false, if_neg Bool.false_ne_true, if_false]; exact Ev.now _
theorem specHoldsFraction_ev {p l t d num den : Int} (hl : -9223372036854775808 ≤ l ∧ l ≤ 9223372036854775807) (hd : -9223372036854775808 ≤ d ∧ d ≤ 9223372036854775807) : Ev (fun k => spec_HoldsFraction.f k p l t d num den) (HoldsFR p l t d num den) := by
 unfold spec_HoldsFraction.f HoldsFR
 rw [bnd (l01Code1 hl hd)]
 by_cases h : IsP p ∧ Bal p l t d
 ·have hr : -6 ≤ l ∧ l ≤ 6 := by have := h.2; unfold Bal at this; omega
  simp only [h, and_self, if_true]
  rw [bnd (l01Fraction_ev (by omega) (by omega))]
  by_cases h1 : (-1000000 ≤ num ∧ num ≤ 1000000) ∧ -1000000 ≤ den ∧ den ≤ 1000000
  ·simp only [h1, and_self, if_true]
   by_cases hz : den = 0
   ·simp only [if_pos hz, if_neg (show ¬ (5 : Int) = 0 by omega)]; exact Ev.now _
   ·simp only [if_neg hz, if_true]
    by_cases hfit : num = 0 ∨ vl p den ≤ vl p num + 6
    ·obtain ⟨x, hx⟩ := near_exists h.1 hz hfit (l + 6).toNat
     rw [bnd (l01Of_ev h.1 hr.1 hr.2 hz (by omega) (by omega) hx hfit)]
     simp only [if_true]
     refine ev_some ?_
     have h3 := near_iff h.1 h.2 hz hx
     rw [← nn_ge h.1 hr.1 hr.2 hz] at h3
     have : (l == l && (ofMt p l x == t && ((ofMd p l x : Int) == d))) = decide (nn p t d num den ≥ l) := by
      rw [Bool.eq_iff_iff]
      simp only [beq_self_eq_true, Bool.true_and, Bool.and_eq_true, beq_iff_eq, decide_eq_true_eq, ge_iff_le]
      exact h3
     rw [this]
    ·have hnum : num ≠ 0 := fun e => hfit (.inl e)
     rw [bnd (l01Of_no h.1 hr.1 hr.2 hz hnum (by omega) (by omega) (by omega))]
     simp only [if_neg Bool.false_ne_true]
     refine ev_some ?_
     have : ¬ l ≤ nn p t d num den := by
      rw [nn_ge h.1 hr.1 hr.2 hz]
      exact fun hc => hfit (fit_of_near h.1 hr.1 hz hc)
     simp [this]
  ·simp only [h1, if_false, if_neg (show ¬ (2 : Int) = 0 by omega)]; exact Ev.now _
 ·simp only [h, if_false, if_neg (show ¬ (1 : Int) = 0 by omega)]; exact Ev.now _
set_option maxRecDepth 100000 in
theorem len8_dec : ∀ n : Fin 256, 1 ≤ n.val → 1 ≤ (bt (⟨#[0, 1, 2, 2, 3, 3, 3, 3, 4, 4, 4, 4, 4, 4, 4, 4, 5, 5, 5, 5, 5, 5, 5, 5, 5, 5, 5, 5, 5, 5, 5, 5, 6, 6, 6, 6, 6, 6, 6, 6, 6, 6, 6, 6, 6, 6, 6, 6, 6, 6, 6, 6, 6, 6, 6, 6, 6, 6, 6, 6, 6, 6, 6, 6, 7, 7, 7, 7, 7, 7, 7, 7, 7, 7, 7, 7, 7, 7, 7, 7, 7, 7, 7, 7, 7, 7, 7, 7, 7, 7, 7, 7, 7, 7, 7, 7, 7, 7, 7, 7, 7, 7, 7, 7, 7, 7, 7, 7, 7, 7, 7, 7, 7, 7, 7, 7, 7, 7, 7, 7, 7, 7, 7, 7, 7, 7, 7, 7, 8, 8, 8, 8, 8, 8, 8, 8, 8, 8, 8, 8, 8, 8, 8, 8, 8, 8, 8, 8, 8, 8, 8, 8, 8, 8, 8, 8, 8, 8, 8, 8, 8, 8, 8, 8, 8, 8, 8, 8, 8, 8, 8, 8, 8, 8, 8, 8, 8, 8, 8, 8, 8, 8, 8, 8, 8, 8, 8, 8, 8, 8, 8, 8, 8, 8, 8, 8, 8, 8, 8, 8, 8, 8, 8, 8, 8, 8, 8, 8, 8, 8, 8, 8, 8, 8, 8, 8, 8, 8, 8, 8, 8, 8, 8, 8, 8, 8, 8, 8, 8, 8, 8, 8, 8, 8, 8, 8, 8, 8, 8, 8, 8, 8, 8, 8, 8, 8, 8, 8, 8, 8, 8, 8, 8, 8, 8, 8]⟩ : ByteArray) (n.val : Int)).toNat ∧ 0 ≤ bt (⟨#[0, 1, 2, 2, 3, 3, 3, 3, 4, 4, 4, 4, 4, 4, 4, 4, 5, 5, 5, 5, 5, 5, 5, 5, 5, 5, 5, 5, 5, 5, 5, 5, 6, 6, 6, 6, 6, 6, 6, 6, 6, 6, 6, 6, 6, 6, 6, 6, 6, 6, 6, 6, 6, 6, 6, 6, 6, 6, 6, 6, 6, 6, 6, 6, 7, 7, 7, 7, 7, 7, 7, 7, 7, 7, 7, 7, 7, 7, 7, 7, 7, 7, 7, 7, 7, 7, 7, 7, 7, 7, 7, 7, 7, 7, 7, 7, 7, 7, 7, 7, 7, 7, 7, 7, 7, 7, 7, 7, 7, 7, 7, 7, 7, 7, 7, 7, 7, 7, 7, 7, 7, 7, 7, 7, 7, 7, 7, 7, 8, 8, 8, 8, 8, 8, 8, 8, 8, 8, 8, 8, 8, 8, 8, 8, 8, 8, 8, 8, 8, 8, 8, 8, 8, 8, 8, 8, 8, 8, 8, 8, 8, 8, 8, 8, 8, 8, 8, 8, 8, 8, 8, 8, 8, 8, 8, 8, 8, 8, 8, 8, 8, 8, 8, 8, 8, 8, 8, 8, 8, 8, 8, 8, 8, 8, 8, 8, 8, 8, 8, 8, 8, 8, 8, 8, 8, 8, 8, 8, 8, 8, 8, 8, 8, 8, 8, 8, 8, 8, 8, 8, 8, 8, 8, 8, 8, 8, 8, 8, 8, 8, 8, 8, 8, 8, 8, 8, 8, 8, 8, 8, 8, 8, 8, 8, 8, 8, 8, 8, 8, 8, 8, 8, 8, 8, 8, 8]⟩ : ByteArray) (n.val : Int) ∧ (bt (⟨#[0, 1, 2, 2, 3, 3, 3, 3, 4, 4, 4, 4, 4, 4, 4, 4, 5, 5, 5, 5, 5, 5, 5, 5, 5, 5, 5, 5, 5, 5, 5, 5, 6, 6, 6, 6, 6, 6, 6, 6, 6, 6, 6, 6, 6, 6, 6, 6, 6, 6, 6, 6, 6, 6, 6, 6, 6, 6, 6, 6, 6, 6, 6, 6, 7, 7, 7, 7, 7, 7, 7, 7, 7, 7, 7, 7, 7, 7, 7, 7, 7, 7, 7, 7, 7, 7, 7, 7, 7, 7, 7, 7, 7, 7, 7, 7, 7, 7, 7, 7, 7, 7, 7, 7, 7, 7, 7, 7, 7, 7, 7, 7, 7, 7, 7, 7, 7, 7, 7, 7, 7, 7, 7, 7, 7, 7, 7, 7, 8, 8, 8, 8, 8, 8, 8, 8, 8, 8, 8, 8, 8, 8, 8, 8, 8, 8, 8, 8, 8, 8, 8, 8, 8, 8, 8, 8, 8, 8, 8, 8, 8, 8, 8, 8, 8, 8, 8, 8, 8, 8, 8, 8, 8, 8, 8, 8, 8, 8, 8, 8, 8, 8, 8, 8, 8, 8, 8, 8, 8, 8, 8, 8, 8, 8, 8, 8, 8, 8, 8, 8, 8, 8, 8, 8, 8, 8, 8, 8, 8, 8, 8, 8, 8, 8, 8, 8, 8, 8, 8, 8, 8, 8, 8, 8, 8, 8, 8, 8, 8, 8, 8, 8, 8, 8, 8, 8, 8, 8, 8, 8, 8, 8, 8, 8, 8, 8, 8, 8, 8, 8, 8, 8, 8, 8, 8, 8]⟩ : ByteArray) (n.val : Int)).toNat ≤ 8 ∧
  2 ^ ((bt (⟨#[0, 1, 2, 2, 3, 3, 3, 3, 4, 4, 4, 4, 4, 4, 4, 4, 5, 5, 5, 5, 5, 5, 5, 5, 5, 5, 5, 5, 5, 5, 5, 5, 6, 6, 6, 6, 6, 6, 6, 6, 6, 6, 6, 6, 6, 6, 6, 6, 6, 6, 6, 6, 6, 6, 6, 6, 6, 6, 6, 6, 6, 6, 6, 6, 7, 7, 7, 7, 7, 7, 7, 7, 7, 7, 7, 7, 7, 7, 7, 7, 7, 7, 7, 7, 7, 7, 7, 7, 7, 7, 7, 7, 7, 7, 7, 7, 7, 7, 7, 7, 7, 7, 7, 7, 7, 7, 7, 7, 7, 7, 7, 7, 7, 7, 7, 7, 7, 7, 7, 7, 7, 7, 7, 7, 7, 7, 7, 7, 8, 8, 8, 8, 8, 8, 8, 8, 8, 8, 8, 8, 8, 8, 8, 8, 8, 8, 8, 8, 8, 8, 8, 8, 8, 8, 8, 8, 8, 8, 8, 8, 8, 8, 8, 8, 8, 8, 8, 8, 8, 8, 8, 8, 8, 8, 8, 8, 8, 8, 8, 8, 8, 8, 8, 8, 8, 8, 8, 8, 8, 8, 8, 8, 8, 8, 8, 8, 8, 8, 8, 8, 8, 8, 8, 8, 8, 8, 8, 8, 8, 8, 8, 8, 8, 8, 8, 8, 8, 8, 8, 8, 8, 8, 8, 8, 8, 8, 8, 8, 8, 8, 8, 8, 8, 8, 8, 8, 8, 8, 8, 8, 8, 8, 8, 8, 8, 8, 8, 8, 8, 8, 8, 8, 8, 8, 8, 8]⟩ : ByteArray) (n.val : Int)).toNat - 1) ≤ n.val ∧ n.val < 2 ^ (bt (⟨#[0, 1, 2, 2, 3, 3, 3, 3, 4, 4, 4, 4, 4, 4, 4, 4, 5, 5, 5, 5, 5, 5, 5, 5, 5, 5, 5, 5, 5, 5, 5, 5, 6, 6, 6, 6, 6, 6, 6, 6, 6, 6, 6, 6, 6, 6, 6, 6, 6, 6, 6, 6, 6, 6, 6, 6, 6, 6, 6, 6, 6, 6, 6, 6, 7, 7, 7, 7, 7, 7, 7, 7, 7, 7, 7, 7, 7, 7, 7, 7, 7, 7, 7, 7, 7, 7, 7, 7, 7, 7, 7, 7, 7, 7, 7, 7, 7, 7, 7, 7, 7, 7, 7, 7, 7, 7, 7, 7, 7, 7, 7, 7, 7, 7, 7, 7, 7, 7, 7, 7, 7, 7, 7, 7, 7, 7, 7, 7, 8, 8, 8, 8, 8, 8, 8, 8, 8, 8, 8, 8, 8, 8, 8, 8, 8, 8, 8, 8, 8, 8, 8, 8, 8, 8, 8, 8, 8, 8, 8, 8, 8, 8, 8, 8, 8, 8, 8, 8, 8, 8, 8, 8, 8, 8, 8, 8, 8, 8, 8, 8, 8, 8, 8, 8, 8, 8, 8, 8, 8, 8, 8, 8, 8, 8, 8, 8, 8, 8, 8, 8, 8, 8, 8, 8, 8, 8, 8, 8, 8, 8, 8, 8, 8, 8, 8, 8, 8, 8, 8, 8, 8, 8, 8, 8, 8, 8, 8, 8, 8, 8, 8, 8, 8, 8, 8, 8, 8, 8, 8, 8, 8, 8, 8, 8, 8, 8, 8, 8, 8, 8, 8, 8, 8, 8, 8, 8]⟩ : ByteArray) (n.val : Int)).toNat := by decide +kernel
set_option maxRecDepth 100000 in
theorem len8_tab {i : Int} (h0 : 1 ≤ i) (h1 : i < 256) : ∃ l : Nat, bt (⟨#[0, 1, 2, 2, 3, 3, 3, 3, 4, 4, 4, 4, 4, 4, 4, 4, 5, 5, 5, 5, 5, 5, 5, 5, 5, 5, 5, 5, 5, 5, 5, 5, 6, 6, 6, 6, 6, 6, 6, 6, 6, 6, 6, 6, 6, 6, 6, 6, 6, 6, 6, 6, 6, 6, 6, 6, 6, 6, 6, 6, 6, 6, 6, 6, 7, 7, 7, 7, 7, 7, 7, 7, 7, 7, 7, 7, 7, 7, 7, 7, 7, 7, 7, 7, 7, 7, 7, 7, 7, 7, 7, 7, 7, 7, 7, 7, 7, 7, 7, 7, 7, 7, 7, 7, 7, 7, 7, 7, 7, 7, 7, 7, 7, 7, 7, 7, 7, 7, 7, 7, 7, 7, 7, 7, 7, 7, 7, 7, 8, 8, 8, 8, 8, 8, 8, 8, 8, 8, 8, 8, 8, 8, 8, 8, 8, 8, 8, 8, 8, 8, 8, 8, 8, 8, 8, 8, 8, 8, 8, 8, 8, 8, 8, 8, 8, 8, 8, 8, 8, 8, 8, 8, 8, 8, 8, 8, 8, 8, 8, 8, 8, 8, 8, 8, 8, 8, 8, 8, 8, 8, 8, 8, 8, 8, 8, 8, 8, 8, 8, 8, 8, 8, 8, 8, 8, 8, 8, 8, 8, 8, 8, 8, 8, 8, 8, 8, 8, 8, 8, 8, 8, 8, 8, 8, 8, 8, 8, 8, 8, 8, 8, 8, 8, 8, 8, 8, 8, 8, 8, 8, 8, 8, 8, 8, 8, 8, 8, 8, 8, 8, 8, 8, 8, 8, 8, 8]⟩ : ByteArray) i = l ∧ IsLen i l ∧ l ≤ 8 := by
 obtain ⟨n, rfl⟩ := Int.eq_ofNat_of_zero_le (show 0 ≤ i by omega)
 have h := len8_dec ⟨n, by omega⟩ (by simp only; omega)
 simp only at h
 refine ⟨_, (Int.toNat_of_nonneg h.2.1).symm, ⟨h.1, ?_, ?_⟩, h.2.2.1⟩
 ·have := h.2.2.2.1
  exact_mod_cast this
 ·have := h.2.2.2.2
  exact_mod_cast this
set_option maxRecDepth 100000 in
theorem Len64_j {x n : Int} (h0 : 1 ≤ x) (h1 : x < 4294967296) (hn : 0 ≤ n ∧ n ≤ 32) : ∃ l : Nat, Ev (fun k => bits_Len64.j0 k x n) (n + l) ∧ IsLen x l ∧ l ≤ 32 := by
 by_cases h16 : x ≥ 65536
 ·by_cases h8 : x / 65536 ≥ 256
  ·have e : x / 65536 / 256 % 256 = x / 65536 / 256 := by omega
   obtain ⟨l, hl, hi, hb⟩ := len8_tab (i := x / 65536 / 256) (by omega) (by omega)
   refine ⟨24 + l, ?_, ?_, by omega⟩
   ·refine Ev.step (fun k => by rw [bits_Len64.j0]) ?_
    simp only [if_pos h16, if_pos h8, e, if_pos (show 0 ≤ x / 65536 / 256 by omega), if_pos (show x / 65536 / 256 < 256 by omega), hl]
    rw [wrap_id (x := n + 16) (by omega) (by omega), wrap_id (x := n + 16 + 8) (by omega) (by omega), wrap_id (x := (l : Int)) (by omega) (by omega), wrap_id (by omega) (by omega)]
    exact ev_some (by omega)
   ·have e2 : x / 2 ^ 24 = x / 65536 / 256 := by omega
    refine IsLen.up 24 ?_
    rw [e2]; exact hi
  ·have e : x / 65536 % 256 = x / 65536 := by omega
   obtain ⟨l, hl, hi, hb⟩ := len8_tab (i := x / 65536) (by omega) (by omega)
   refine ⟨16 + l, ?_, ?_, by omega⟩
   ·refine Ev.step (fun k => by rw [bits_Len64.j0]) ?_
    simp only [if_pos h16, if_neg h8, e, if_pos (show 0 ≤ x / 65536 by omega), if_pos (show x / 65536 < 256 by omega), hl]
    rw [wrap_id (x := n + 16) (by omega) (by omega), wrap_id (x := (l : Int)) (by omega) (by omega), wrap_id (by omega) (by omega)]
    exact ev_some (by omega)
   ·refine IsLen.up 16 ?_
    exact hi
 ·by_cases h8 : x ≥ 256
  ·have e : x / 256 % 256 = x / 256 := by omega
   obtain ⟨l, hl, hi, hb⟩ := len8_tab (i := x / 256) (by omega) (by omega)
   refine ⟨8 + l, ?_, ?_, by omega⟩
   ·refine Ev.step (fun k => by rw [bits_Len64.j0]) ?_
    simp only [if_neg h16, if_pos h8, e, if_pos (show 0 ≤ x / 256 by omega), if_pos (show x / 256 < 256 by omega), hl]
    rw [wrap_id (x := n + 8) (by omega) (by omega), wrap_id (x := (l : Int)) (by omega) (by omega), wrap_id (by omega) (by omega)]
    exact ev_some (by omega)
   ·refine IsLen.up 8 ?_
    exact hi
  ·have e : x % 256 = x := by omega
   obtain ⟨l, hl, hi, hb⟩ := len8_tab (i := x) (by omega) (by omega)
   refine ⟨l, ?_, hi, by omega⟩
   refine Ev.step (fun k => by rw [bits_Len64.j0]) ?_
   simp only [if_neg h16, if_neg h8, e, if_pos (show 0 ≤ x by omega), if_pos (show x < 256 by omega), hl]
   rw [wrap_id (x := (l : Int)) (by omega) (by omega), wrap_id (by omega) (by omega)]
   exact Ev.now _
theorem Len64_ev {x : Int} (h0 : 1 ≤ x) (h1 : x < 18446744073709551616) : ∃ l : Nat, Ev (fun k => bits_Len64.f k x) l ∧ IsLen x l ∧ l ≤ 64 := by
 unfold bits_Len64.f
 by_cases h32 : x ≥ 4294967296
 ·obtain ⟨l, hl, hi, hb⟩ := Len64_j (x := x / 4294967296) (n := 32) (by omega) (by omega) (by omega)
  refine ⟨32 + l, ?_, IsLen.up 32 hi, by omega⟩
  simp only [if_pos h32]
  exact ev_eq hl (by omega)
 ·obtain ⟨l, hl, hi, hb⟩ := Len64_j (x := x) (n := 0) (by omega) (by omega) (by omega)
  refine ⟨l, ?_, hi, by omega⟩
  simp only [if_neg h32]
  exact ev_eq hl (by omega)
theorem Mul64_eq {a b : Int} (a0 : 0 ≤ a) (a1 : a < 18446744073709551616) (b0 : 0 ≤ b) (b1 : b < 18446744073709551616) : bits_Mul64.f a b = some (a * b / 18446744073709551616, a * b % 18446744073709551616) := by
 unfold bits_Mul64.f
 rw [u64_mask32 a0 a1, u64_mask32 b0 b1]
 have hah : 0 ≤ a / 4294967296 ∧ a / 4294967296 ≤ 4294967295 := by omega
 have hal : 0 ≤ a % 4294967296 ∧ a % 4294967296 ≤ 4294967295 := by omega
 have hbh : 0 ≤ b / 4294967296 ∧ b / 4294967296 ≤ 4294967295 := by omega
 have hbl : 0 ≤ b % 4294967296 ∧ b % 4294967296 ≤ 4294967295 := by omega
 have hab : a * b = (a / 4294967296) * (b / 4294967296) * 18446744073709551616 + ((a / 4294967296) * (b % 4294967296) + (a % 4294967296) * (b / 4294967296)) * 4294967296 + (a % 4294967296) * (b % 4294967296) := by
  have ea : a = 4294967296 * (a / 4294967296) + a % 4294967296 := by omega
  have eb : b = 4294967296 * (b / 4294967296) + b % 4294967296 := by omega
  generalize a / 4294967296 = x1 at *
  generalize a % 4294967296 = x0 at *
  generalize b / 4294967296 = y1 at *
  generalize b % 4294967296 = y0 at *
  rw [ea, eb]
  simp only [Int.add_mul, Int.mul_add]
  have e1 : 4294967296 * x1 * (4294967296 * y1) = x1 * y1 * 18446744073709551616 := by
   rw [show (18446744073709551616 : Int) = 4294967296 * 4294967296 by decide]
   simp only [Int.mul_assoc, Int.mul_comm, Int.mul_left_comm]
  have e2 : 4294967296 * x1 * y0 = x1 * y0 * 4294967296 := by rw [Int.mul_assoc, Int.mul_comm]
  have e3 : x0 * (4294967296 * y1) = x0 * y1 * 4294967296 := by rw [Int.mul_left_comm, Int.mul_comm]
  rw [e1, e2, e3]
  omega
 have bound : ∀ {x y : Int}, 0 ≤ x ∧ x ≤ 4294967295 → 0 ≤ y ∧ y ≤ 4294967295 → 0 ≤ x * y ∧ x * y ≤ 18446744065119617025 := by
  intro x y hx hy
  have a := Int.mul_le_mul hx.2 hy.2 hy.1 (by omega)
  exact ⟨Int.mul_nonneg hx.1 hy.1, by omega⟩
 have p11 := bound hah hbh
 have p10 := bound hah hbl
 have p01 := bound hal hbh
 have p00 := bound hal hbl
 generalize (a / 4294967296) * (b / 4294967296) = q11 at *
 generalize (a / 4294967296) * (b % 4294967296) = q10 at *
 generalize (a % 4294967296) * (b / 4294967296) = q01 at *
 generalize (a % 4294967296) * (b % 4294967296) = q00 at *
 rw [hab]
 have w1 : IntKind.u64.wrap q11 = q11 := wrapu_id (by omega) (by omega)
 have w2 : IntKind.u64.wrap q10 = q10 := wrapu_id (by omega) (by omega)
 have w3 : IntKind.u64.wrap q01 = q01 := wrapu_id (by omega) (by omega)
 have w4 : IntKind.u64.wrap q00 = q00 := wrapu_id (by omega) (by omega)
 rw [w1, w2, w3, w4]
 have w5 : IntKind.u64.wrap (q10 + q00 / 4294967296) = q10 + q00 / 4294967296 := wrapu_id (by omega) (by omega)
 rw [w5, u64_mask32 (by omega) (by omega)]
 have w6 : IntKind.u64.wrap ((q10 + q00 / 4294967296) % 4294967296 + q01) = (q10 + q00 / 4294967296) % 4294967296 + q01 := wrapu_id (by omega) (by omega)
 have w7 : IntKind.u64.wrap (q11 + (q10 + q00 / 4294967296) / 4294967296) = q11 + (q10 + q00 / 4294967296) / 4294967296 := wrapu_id (by omega) (by omega)
 rw [w6, w7, wrapu, wrapu]
 congr 2
 omega
theorem Div64_l0 {Y s y1 y0 u v w : Int} {R : Int × Int} (hy : Y = y1 * 4294967296 + y0) (hy1 : 2147483648 ≤ y1) (hy1' : y1 < 4294967296) (hy0 : 0 ≤ y0) (hy0' : y0 < 4294967296) (huY : u < Y) (hv : 0 ≤ v) (hv' : v < 4294967296)
  (hend : Ev (fun k => bits_Div64.j2 k Y s y1 y0 u v w ((u * 4294967296 + v) / Y)) R) : ∀ (n : Nat) (q r : Int), (4294967296 - r).toNat ≤ n → Guess Y y1 u (u * 4294967296 + v) q r → Ev (fun k => bits_Div64.l0 k Y s y1 y0 u v w q r) R := by
 have hY : 0 < Y := by omega
 intro n
 induction n with
 | zero => intro q r hn hg; obtain ⟨_, _, h3, h4, _⟩ := hg; omega
 | succ n ih =>
  intro q r hn hg
  have hg' := hg
  obtain ⟨g1, g2, g3, g4, g5, g6⟩ := hg'
  have go : ∀ b : Bool, (b = true ↔ 4294967296 ≤ q ∨ 4294967296 * r + v < q * y0) → Ev (fun k => bits_Div64.j1 k Y s y1 y0 u v w q r b) R := by
   intro b hb
   refine Ev.step (fun k => by rw [bits_Div64.j1]) ?_
   by_cases hc : 4294967296 ≤ q ∨ 4294967296 * r + v < q * y0
   ·obtain ⟨d1, d2, d3⟩ := guess_down hy hY huY hv hv' hg hc
    rw [wrapu_id (n := r + y1) (by omega) (by omega), wrapu_id (n := q - 1) (by omega) (by omega)]
    simp only [hb.2 hc, if_true]
    by_cases hr : r + y1 ≥ 4294967296
    ·simp only [if_pos hr]
     have hstop : q - 1 = (u * 4294967296 + v) / Y := by
      have h3 : q - 1 ≤ (u * 4294967296 + v) / Y := by
       rw [Int.le_ediv_iff_mul_le hY, hy, Int.mul_add, ← Int.mul_assoc]
       have h4 : (q - 1) * y0 ≤ 4294967296 * 4294967295 := Int.mul_le_mul (by omega) (by omega) hy0 (by omega)
       omega
      omega
     rw [hstop]; exact hend
    ·simp only [if_neg hr]
     exact ih (q - 1) (r + y1) (by omega) ⟨d2, d1, by omega, by omega, by omega, by omega⟩
   ·have hbf : b = false := by cases b with
     | true => exact absurd (hb.1 rfl) hc
     | false => rfl
    simp only [hbf, if_neg Bool.false_ne_true]
    have := guess_stop hy hY hg (by omega)
    rw [this]; exact hend
  refine Ev.step (fun k => by rw [bits_Div64.l0]) ?_
  by_cases hq : q ≥ 4294967296
  ·simp only [if_pos hq]
   exact go _ (by simp; omega)
  ·simp only [if_neg hq]
   have hqy : 0 ≤ q * y0 ∧ q * y0 ≤ 4294967295 * 4294967295 := ⟨Int.mul_nonneg g5 hy0, Int.mul_le_mul (by omega) (by omega) hy0 (by omega)⟩
   rw [wrapu_id (n := q * y0) (by omega) (by omega), wrapu_id (n := 4294967296 * r) (by omega) (by omega), wrapu_id (n := 4294967296 * r + v) (by omega) (by omega)]
   exact go _ (by simp; omega)
theorem Div64_l1 {Y y1 y0 u v q1 : Int} {s : Nat} (hs : s ≤ 64) (hy : Y = y1 * 4294967296 + y0) (hy1 : 2147483648 ≤ y1) (hy1' : y1 < 4294967296) (hy0 : 0 ≤ y0) (hy0' : y0 < 4294967296) (hu : 0 ≤ u) (huY : u < Y) (hv : 0 ≤ v) (hv' : v < 4294967296)
  (hq1 : 0 ≤ q1) (hq1' : q1 < 4294967296) : ∀ (n : Nat) (q r : Int), (4294967296 - r).toNat ≤ n → Guess Y y1 u (u * 4294967296 + v) q r →
  Ev (fun k => bits_Div64.l1 k Y s y1 y0 v q1 r u q) (q1 * 4294967296 + (u * 4294967296 + v) / Y, (u * 4294967296 + v) % Y / 2 ^ s) := by
 have hY : 0 < Y := by omega
 have hlast : ∀ q : Int, q = (u * 4294967296 + v) / Y → IntKind.u64.wrap (IntKind.u64.wrap (q1 * 4294967296) + q) = q1 * 4294967296 + (u * 4294967296 + v) / Y ∧
   shr .u64 (IntKind.u64.wrap (IntKind.u64.wrap (IntKind.u64.wrap (u * 4294967296) + v) - IntKind.u64.wrap (q * Y))) s = (u * 4294967296 + v) % Y / 2 ^ s := by
  intro q hq
  have hqr := quot_rem (n := u * 4294967296 + v) hY
  have hr0 := Int.emod_nonneg (u * 4294967296 + v) (Int.ne_of_gt hY)
  have hr1 := Int.emod_lt_of_pos (u * 4294967296 + v) hY
  have hq0 : 0 ≤ (u * 4294967296 + v) / Y := Int.ediv_nonneg (by omega) (by omega)
  have hqlt : (u * 4294967296 + v) / Y < 4294967296 := by rw [Int.ediv_lt_iff_lt_mul hY]; omega
  rw [shr_u64 hs]
  constructor
  ·rw [wrapu_id (n := q1 * 4294967296) (by omega) (by omega), wrapu_id (by omega) (by omega), hq]
  ·congr 1
   rw [hq]
   simp only [wrapu]
   generalize (u * 4294967296 + v) / Y * Y = P at *
   generalize (u * 4294967296 + v) % Y = Q at *
   omega
 intro n
 induction n with
 | zero => intro q r hn hg; obtain ⟨_, _, h3, h4, _⟩ := hg; omega
 | succ n ih =>
  intro q r hn hg
  have hg' := hg
  obtain ⟨g1, g2, g3, g4, g5, g6⟩ := hg'
  have hs0 : (0 : Int) ≤ (s : Int) := Int.natCast_nonneg s
  have go : ∀ b : Bool, (b = true ↔ 4294967296 ≤ q ∨ 4294967296 * r + v < q * y0) → Ev (fun k => bits_Div64.j4 k Y s y1 y0 v q1 r u q b) (q1 * 4294967296 + (u * 4294967296 + v) / Y, (u * 4294967296 + v) % Y / 2 ^ s) := by
   intro b hb
   refine Ev.step (fun k => by rw [bits_Div64.j4]) ?_
   by_cases hc : 4294967296 ≤ q ∨ 4294967296 * r + v < q * y0
   ·obtain ⟨d1, d2, d3⟩ := guess_down hy hY huY hv hv' hg hc
    rw [wrapu_id (n := r + y1) (by omega) (by omega), wrapu_id (n := q - 1) (by omega) (by omega)]
    simp only [hb.2 hc, if_true]
    by_cases hr : r + y1 ≥ 4294967296
    ·simp only [if_pos hr, if_pos hs0]
     have hstop : q - 1 = (u * 4294967296 + v) / Y := by
      have h3 : q - 1 ≤ (u * 4294967296 + v) / Y := by
       rw [Int.le_ediv_iff_mul_le hY, hy, Int.mul_add, ← Int.mul_assoc]
       have h4 : (q - 1) * y0 ≤ 4294967296 * 4294967295 := Int.mul_le_mul (by omega) (by omega) hy0 (by omega)
       omega
      omega
     obtain ⟨l1, l2⟩ := hlast (q - 1) hstop
     rw [l1, l2]
     exact Ev.now _
    ·simp only [if_neg hr]
     exact ih (q - 1) (r + y1) (by omega) ⟨d2, d1, by omega, by omega, by omega, by omega⟩
   ·have hbf : b = false := by cases b with
     | true => exact absurd (hb.1 rfl) hc
     | false => rfl
    simp only [hbf, if_neg Bool.false_ne_true, if_pos hs0]
    have hstop := guess_stop hy hY hg (by omega)
    obtain ⟨l1, l2⟩ := hlast q hstop
    rw [l1, l2]
    exact Ev.now _
  refine Ev.step (fun k => by rw [bits_Div64.l1]) ?_
  by_cases hq : q ≥ 4294967296
  ·simp only [if_pos hq]
   exact go _ (by simp; omega)
  ·simp only [if_neg hq]
   have hqy : 0 ≤ q * y0 ∧ q * y0 ≤ 4294967295 * 4294967295 := ⟨Int.mul_nonneg g5 hy0, Int.mul_le_mul (by omega) (by omega) hy0 (by omega)⟩
   rw [wrapu_id (n := q * y0) (by omega) (by omega), wrapu_id (n := 4294967296 * r) (by omega) (by omega), wrapu_id (n := 4294967296 * r + v) (by omega) (by omega)]
   exact go _ (by simp; omega)
theorem Div64_ev {hi lo y : Int} (h0 : 0 ≤ hi) (h1 : hi < y) (hy : y < 18446744073709551616) (l0 : 0 ≤ lo) (l1 : lo < 18446744073709551616) :
  Ev (fun k => bits_Div64.f k hi lo y) ((hi * 18446744073709551616 + lo) / y, (hi * 18446744073709551616 + lo) % y) := by
 unfold bits_Div64.f
 simp only [if_neg (show ¬ y = 0 by omega), if_neg (show ¬ y ≤ hi by omega)]
 by_cases hz : hi = 0
 ·simp only [if_pos hz]
  refine ev_some ?_
  rw [hz, Int.zero_mul, Int.zero_add, Int.tdiv_eq_ediv_of_nonneg l0, Int.tmod_eq_emod_of_nonneg l0, wrapu_id (Int.ediv_nonneg l0 (by omega))]
  have := Int.ediv_le_self y l0
  omega
 ·obtain ⟨L, hL, ⟨i1, i2, i3⟩, hL64⟩ := Len64_ev (x := y) (by omega) hy
  have hlz : Ev (fun k => bits_LeadingZeros64.f k y) ((64 - L : Nat) : Int) := by
   unfold bits_LeadingZeros64.f
   rw [bnd hL]
   exact ev_some (by rw [wrap_id (by omega) (by omega)]; omega)
  simp only [if_neg hz]
  rw [bnd hlz]
  generalize hs : 64 - L = s
  have hs64 : s ≤ 63 := by omega
  have eL : L = 64 - s := by omega
  subst eL
  have w1 : IntKind.u64.wrap ((s : Nat) : Int) = s := wrapu_id (by omega) (by omega)
  have w2 : IntKind.u64.wrap (64 - (s : Int)) = ((64 - s : Nat) : Int) := by rw [wrapu_id (by omega) (by omega)]; omega
  simp only [w1, w2]
  rw [shl_u64 (x := y) (by omega), shl_u64 (x := hi) (by omega), shl_u64 (x := lo) (by omega), shr_u64 (x := lo) (s := 64 - s) (by omega)]
  have hS := two_pow_pos' s
  have hT := two_pow_pos' (64 - s)
  have hST : (2 : Int) ^ (64 - s) * 2 ^ s = 18446744073709551616 := by
   rw [← Int.pow_add]
   have : 64 - s + s = 64 := by omega
   rw [this]; decide
  have hST1 : (2 : Int) ^ (64 - s - 1) * 2 ^ s = 9223372036854775808 := by
   rw [← Int.pow_add]
   have : 64 - s - 1 + s = 63 := by omega
   rw [this]; decide
  have hY1 : y * 2 ^ s < 18446744073709551616 := by rw [← hST]; exact Int.mul_lt_mul_of_pos_right i3 hS
  have hY0 : 9223372036854775808 ≤ y * 2 ^ s := by rw [← hST1]; exact Int.mul_le_mul_of_nonneg_right i2 (Int.le_of_lt hS)
  have hH0 : 0 ≤ hi * 2 ^ s := Int.mul_nonneg h0 (Int.le_of_lt hS)
  have hH1 : hi * 2 ^ s + 2 ^ s ≤ y * 2 ^ s := by
   have := Int.mul_le_mul_of_nonneg_right (show hi + 1 ≤ y by omega) (Int.le_of_lt hS)
   rw [Int.add_mul, Int.one_mul] at this
   exact this
  have eY : y * 2 ^ s % 18446744073709551616 = y * 2 ^ s := Int.emod_eq_of_lt (by omega) hY1
  have eH : hi * 2 ^ s % 18446744073709551616 = hi * 2 ^ s := Int.emod_eq_of_lt hH0 (by omega)
  have hq0 : 0 ≤ lo / 2 ^ (64 - s) := Int.ediv_nonneg l0 (Int.le_of_lt hT)
  have hq1 : lo / 2 ^ (64 - s) < 2 ^ s := by
   rw [Int.ediv_lt_iff_lt_mul hT, Int.mul_comm, hST]; exact l1
  rw [eY, eH, or_u64 (s := s) (by omega) hH0 (Int.dvd_mul_left _ _) (by omega) hq0 hq1 (by omega)]
  rw [u64_mask32 (x := y * 2 ^ s) (by omega) hY1]
  have hlo := Int.emod_nonneg (lo * 2 ^ s) (show (18446744073709551616 : Int) ≠ 0 by decide)
  have hlo1 := Int.emod_lt_of_pos (lo * 2 ^ s) (show (0 : Int) < 18446744073709551616 by decide)
  rw [u64_mask32 (x := lo * 2 ^ s % 18446744073709551616) hlo hlo1]
  have hV : (hi * 18446744073709551616 + lo) * 2 ^ s = (hi * 2 ^ s + lo / 2 ^ (64 - s)) * 18446744073709551616 + lo * 2 ^ s % 18446744073709551616 := by
   have a1 : lo * 2 ^ s / 18446744073709551616 = lo / 2 ^ (64 - s) := by
    rw [← hST]; exact Int.mul_ediv_mul_of_pos_left lo _ hS
   have a2 := Int.mul_ediv_add_emod (lo * 2 ^ s) 18446744073709551616
   rw [a1] at a2
   rw [Int.add_mul, Int.add_mul, Int.mul_right_comm]
   omega
  have hw : lo * 2 ^ s % 18446744073709551616 = lo * 2 ^ s % 18446744073709551616 / 4294967296 * 4294967296 + lo * 2 ^ s % 18446744073709551616 % 4294967296 := by omega
  obtain ⟨t1, t2⟩ := two_digits hS (show 0 < y by omega) hV hw
  have v10 : 0 ≤ lo * 2 ^ s % 18446744073709551616 / 4294967296 ∧ lo * 2 ^ s % 18446744073709551616 / 4294967296 < 4294967296 := by omega
  have v00 : 0 ≤ lo * 2 ^ s % 18446744073709551616 % 4294967296 ∧ lo * 2 ^ s % 18446744073709551616 % 4294967296 < 4294967296 := by omega
  have u0 : 0 ≤ hi * 2 ^ s + lo / 2 ^ (64 - s) ∧ hi * 2 ^ s + lo / 2 ^ (64 - s) < y * 2 ^ s := by omega
  generalize lo * 2 ^ s % 18446744073709551616 / 4294967296 = v1 at *
  generalize lo * 2 ^ s % 18446744073709551616 % 4294967296 = v0 at *
  generalize hi * 2 ^ s + lo / 2 ^ (64 - s) = u at *
  generalize hYY : y * 2 ^ s = Y at *
  have hy1a : 2147483648 ≤ Y / 4294967296 ∧ Y / 4294967296 < 4294967296 := by omega
  have hy0a : 0 ≤ Y % 4294967296 ∧ Y % 4294967296 < 4294967296 := by omega
  have hYs : Y = Y / 4294967296 * 4294967296 + Y % 4294967296 := by omega
  have hY : 0 < Y := by omega
  simp only [if_pos (show (0 : Int) ≤ (s : Int) by omega), if_pos (show (0 : Int) ≤ ((64 - s : Nat) : Int) by omega), if_neg (show ¬ Y / 4294967296 = 0 by omega)]
  rw [Int.tdiv_eq_ediv_of_nonneg u0.1]
  have g1 := guess_first hYs hy1a.1 hy1a.2 hy0a.1 hy0a.2 u0.1 u0.2 v10.1 v10.2
  have hdm : 0 ≤ u / (Y / 4294967296) * (Y / 4294967296) ∧ u / (Y / 4294967296) * (Y / 4294967296) ≤ u := by
   obtain ⟨ga, _, gc, _, ge, _⟩ := g1
   exact ⟨Int.mul_nonneg ge (by omega), by omega⟩
  have gb := g1
  obtain ⟨_, _, gc, gd, ge, gf⟩ := gb
  rw [wrapu_id (n := u / (Y / 4294967296)) (by omega) (by omega), wrapu_id (n := u / (Y / 4294967296) * (Y / 4294967296)) (by omega) (by omega), wrapu_id (n := u - u / (Y / 4294967296) * (Y / 4294967296)) (by omega) (by omega)]
  refine Div64_l0 hYs hy1a.1 hy1a.2 hy0a.1 hy0a.2 u0.2 v10.1 v10.2 ?_ _ _ _ (Nat.le_refl _) g1
  refine Ev.step (fun k => by rw [bits_Div64.j2]) ?_
  simp only [if_neg (show ¬ Y / 4294967296 = 0 by omega)]
  have hqr := quot_rem (n := u * 4294967296 + v1) hY
  have hr0 := Int.emod_nonneg (u * 4294967296 + v1) (Int.ne_of_gt hY)
  have hr1 := Int.emod_lt_of_pos (u * 4294967296 + v1) hY
  have hd0 : 0 ≤ (u * 4294967296 + v1) / Y := Int.ediv_nonneg (by omega) (by omega)
  have hd1 : (u * 4294967296 + v1) / Y < 4294967296 := by rw [Int.ediv_lt_iff_lt_mul hY]; omega
  have e21 : IntKind.u64.wrap (IntKind.u64.wrap (IntKind.u64.wrap (u * 4294967296) + v1) - IntKind.u64.wrap ((u * 4294967296 + v1) / Y * Y)) = (u * 4294967296 + v1) % Y := by
   simp only [wrapu]
   generalize (u * 4294967296 + v1) / Y * Y = P at *
   generalize (u * 4294967296 + v1) % Y = Q at *
   omega
  rw [e21]
  generalize (u * 4294967296 + v1) % Y = u2 at *
  generalize (u * 4294967296 + v1) / Y = q1 at *
  rw [Int.tdiv_eq_ediv_of_nonneg hr0]
  have g2 := guess_first hYs hy1a.1 hy1a.2 hy0a.1 hy0a.2 hr0 hr1 v00.1 v00.2
  have gb2 := g2
  obtain ⟨_, _, gc2, gd2, ge2, gf2⟩ := gb2
  have hdm2 : 0 ≤ u2 / (Y / 4294967296) * (Y / 4294967296) ∧ u2 / (Y / 4294967296) * (Y / 4294967296) ≤ u2 := ⟨Int.mul_nonneg ge2 (by omega), by omega⟩
  rw [wrapu_id (n := u2 / (Y / 4294967296)) (by omega) (by omega), wrapu_id (n := u2 / (Y / 4294967296) * (Y / 4294967296)) (by omega) (by omega), wrapu_id (n := u2 - u2 / (Y / 4294967296) * (Y / 4294967296)) (by omega) (by omega)]
  have hfin := Div64_l1 (s := s) (by omega) hYs hy1a.1 hy1a.2 hy0a.1 hy0a.2 hr0 hr1 v00.1 v00.2 hd0 hd1 _ _ _ (Nat.le_refl _) g2
  rw [t1, t2] at hfin
  exact hfin
theorem times_ev {a b m : Int} (h0 : 0 < m) (h1 : m ≤ 4611686018427387904) : Ev (fun k => impl_times.f k a b m) (a * b % m) := by
 unfold impl_times.f
 have a0 := Int.emod_nonneg a (Int.ne_of_gt h0)
 have a1 := Int.emod_lt_of_pos a h0
 have b0 := Int.emod_nonneg b (Int.ne_of_gt h0)
 have b1 := Int.emod_lt_of_pos b h0
 simp only [mod_ev h0 h1, Option.bind_some]
 rw [wrapu_id (n := a % m) a0 (by omega), wrapu_id (n := b % m) b0 (by omega), wrapu_id (n := m) (by omega) (by omega)]
 simp only [Mul64_eq a0 (show a % m < 18446744073709551616 by omega) b0 (show b % m < 18446744073709551616 by omega), Option.bind_some, if_neg (Int.ne_of_gt h0)]
 have p0 : 0 ≤ a % m * (b % m) := Int.mul_nonneg a0 b0
 have hd0 : 0 ≤ a % m * (b % m) / 18446744073709551616 := Int.ediv_nonneg p0 (by decide)
 rw [Int.tmod_eq_emod_of_nonneg hd0]
 have r0 := Int.emod_nonneg (a % m * (b % m) / 18446744073709551616) (Int.ne_of_gt h0)
 have r1 := Int.emod_lt_of_pos (a % m * (b % m) / 18446744073709551616) h0
 have s0 := Int.emod_nonneg (a % m * (b % m)) (show (18446744073709551616 : Int) ≠ 0 by decide)
 have s1 := Int.emod_lt_of_pos (a % m * (b % m)) (show (0 : Int) < 18446744073709551616 by decide)
 rw [bnd (Div64_ev r0 r1 (by omega) s0 s1)]
 have e : (a % m * (b % m) / 18446744073709551616 % m * 18446744073709551616 + a % m * (b % m) % 18446744073709551616) % m = a * b % m := by
  rw [Int.add_emod, mul_emod_left, ← Int.add_emod]
  have : a % m * (b % m) / 18446744073709551616 * 18446744073709551616 + a % m * (b % m) % 18446744073709551616 = a % m * (b % m) := by
   have := Int.mul_ediv_add_emod (a % m * (b % m)) 18446744073709551616
   omega
  rw [this, ← Int.mul_emod]
 have t0 := Int.emod_nonneg (a * b) (Int.ne_of_gt h0)
 have t1 := Int.emod_lt_of_pos (a * b) h0
 refine ev_some ?_
 simp only
 rw [e, wrap_id (by omega) (by omega)]
theorem inverse_l {n m : Int} (hm : 0 < m) (hm' : m ≤ 1000000000000) : ∀ (k : Nat) (a b : Nat) (x y : Int), b ≤ k → Euc n m a b x y → (a : Int) ≤ 1000000000000 → (b : Int) ≤ 1000000000000 →
  ∃ r, Ev (fun k => impl_inverse.l0 k m a b x y) r ∧ 0 ≤ r ∧ r < m ∧ m ∣ r * n - 1 := by
 intro k
 induction k with
 | zero =>
  intro a b x y hb he ha1 hb1
  obtain rfl : b = 0 := by omega
  have hl := he.last
  have hbd := he.bounds
  refine ⟨x % m, ?_, Int.emod_nonneg _ (Int.ne_of_gt hm), Int.emod_lt_of_pos _ hm, ?_⟩
  ·refine Ev.step (fun k => by rw [impl_inverse.l0]) ?_
   simp only [Int.natCast_zero, if_true, mod_ev hm (show m ≤ 4611686018427387904 by omega), Option.bind_some]
   exact Ev.now _
  ·have h1 := dvd_emod_sub x m
   have h2 : x % m * n - 1 = (x % m - x) * n + (x * n - 1) := by rw [Int.sub_mul]; omega
   rw [h2]
   exact Int.dvd_add (Int.dvd_trans h1 (Int.dvd_mul_right _ _)) hl
 | succ k ih =>
  intro a b x y hb he ha1 hb1
  by_cases hz : b = 0
  ·exact ih a b x y (by omega) he ha1 hb1
  ·have hnx := he.next (by omega)
   obtain ⟨r, hr, h0, h1, h2⟩ := ih b (a % b) y (x - (a / b : Nat) * y) (by have := Nat.mod_lt a (show 0 < b by omega); omega) hnx hb1 (by have := Nat.mod_lt a (show 0 < b by omega); omega)
   refine ⟨r, ?_, h0, h1, h2⟩
   refine Ev.step (fun k => by rw [impl_inverse.l0]) ?_
   suffices hs : wrap64 (Int.tdiv (a : Int) b) = (a / b : Nat) ∧ wrap64 ((a : Int) - wrap64 ((a / b : Nat) * (b : Int))) = (a % b : Nat) ∧ wrap64 (x - wrap64 ((a / b : Nat) * y)) = x - (a / b : Nat) * y by
    simp only [if_neg (show ¬ (b : Int) = 0 by omega), hs.1, hs.2.1, hs.2.2]
    exact hr
   have hbd := he.bounds
   have hbd2 := hnx.bounds
   have eq : Int.tdiv (a : Int) b = (a / b : Nat) := by rw [Int.tdiv_eq_ediv_of_nonneg (by omega), Int.natCast_ediv]
   have hdm := Nat.div_add_mod a b
   have hle := Nat.div_le_self a b
   have hmod := Nat.mod_le a b
   have hprod : ((a / b : Nat) : Int) * b = a - (a % b : Nat) := by
    have : ((b * (a / b) + a % b : Nat) : Int) = (a : Int) := by rw [hdm]
    rw [Int.natCast_add, Int.natCast_mul, Int.mul_comm (b : Int)] at this
    omega
   rw [eq]
   exact euc_wraps hle hmod hprod (by omega) hm hm' hbd hbd2
theorem inverse_ev {p n : Int} (h : IsP p) {e : Nat} (he : e ≤ 14) (hn : ¬ p ∣ n) :
  ∃ r, Ev (fun k => impl_inverse.f k n (p ^ e)) r ∧ 0 ≤ r ∧ r < p ^ e ∧ p ^ e ∣ r * n - 1 := by
 have h0 := pow_pos' h e
 have h7 := pow_le_seven h (m := e) (n := 14) (by omega)
 have e14 : (7 : Int) ^ 14 = 678223072849 := by decide
 have hst := Euc.start (n := n) h0 (coprime_start h hn e)
 have hr0 := Int.emod_nonneg n (Int.ne_of_gt h0)
 have hr1 := Int.emod_lt_of_pos n h0
 obtain ⟨r, hr, a, b, c⟩ := inverse_l h0 (by omega) _ _ _ _ _ (Nat.le_refl _) hst (by omega) (by omega)
 refine ⟨r, ?_, a, b, c⟩
 unfold impl_inverse.f
 simp only [mod_ev h0 (show p ^ e ≤ 4611686018427387904 by omega), Option.bind_some]
 rw [Int.toNat_of_nonneg hr0, Int.toNat_of_nonneg (by omega)] at hr
 exact hr
theorem unit_ev {p x u : Int} (h : IsP p) (hx : x ≠ 0) (hu : x = p ^ vl p x * u) (h0 : -9223372036854775807 ≤ x) (h1 : x ≤ 9223372036854775807) : Ev (fun k => impl_unit.f k p x) u := by
 unfold impl_unit.f
 rw [bnd (valuation_ev h hx h0 h1), bnd (power_any h hx h0 h1)]
 have q1 : Int.tdiv x (p ^ vl p x) = u := by
  conv => lhs; arg 1; rw [hu]
  exact tdiv_mul_left (pow_ne' h _)
 have c1 := tdiv_bounds (n := x) (m := p ^ vl p x)
 rw [q1] at c1
 simp only [if_neg (pow_ne' h _), q1]
 exact ev_some (wrap_id (by omega) (by omega))
theorem ballAt_ev {p num den level x : Int} (h : IsP p) (l0 : -6 ≤ level) (l1 : level ≤ 6) (hden : den ≠ 0)
  (n0 : -4000000000000000000 ≤ num ∧ num ≤ 4000000000000000000) (d0 : -4000000000000000000 ≤ den ∧ den ≤ 4000000000000000000)
  (hx : p ^ ((level + 6).toNat + vl p den) ∣ x * den - num * p ^ 6) (hfit : num = 0 ∨ vl p den ≤ vl p num + 6) :
  Ev (fun k => impl_ballAt.f k p num den level) (level, ofMt p level x, (ofMd p level x : Int), true) := by
 unfold impl_ballAt.f
 simp only [isLevel_eq, Option.bind_some, show (-6 ≤ level ∧ level ≤ 6) from ⟨l0, l1⟩, and_self, decide_true, if_true]
 have b2 := vl_le_62 h hden (by omega) (by omega)
 rw [bnd (valuation_any h (by omega) (by omega)), bnd (valuation_ev h hden (by omega) (by omega))]
 by_cases hz : num = 0
 ·obtain ⟨h1, h2⟩ := of_low h hden hx (.inl hz) l0
  simp only [if_pos hz]
  refine Ev.step (fun k => by rw [impl_ballAt.j0]) ?_
  simp only [if_true, h1, h2]
  exact Ev.now _
 ·have b1 := vl_le_62 h hz (by omega) (by omega)
  have ev : vx p num = vl p num := by unfold vx; rw [if_neg hz]
  have e1 : wrap64 ((vl p num : Int) - vl p den) = (vl p num : Int) - vl p den := wrap_id (by omega) (by omega)
  simp only [if_neg hz, ev, e1]
  by_cases hlow : level ≤ (vl p num : Int) - vl p den
  ·obtain ⟨h1, h2⟩ := of_low h hden hx (.inr (by omega)) l0
   simp only [show decide ((vl p num : Int) - vl p den ≥ level) = true from decide_eq_true hlow]
   refine Ev.step (fun k => by rw [impl_ballAt.j0]) ?_
   simp only [if_true, h1, h2]
   exact Ev.now _
  ·have hfit' : vl p den ≤ vl p num + 6 := by rcases hfit with h1 | h1; exact absurd h1 hz; exact h1
   simp only [show decide ((vl p num : Int) - vl p den ≥ level) = false from decide_eq_false hlow]
   refine Ev.step (fun k => by rw [impl_ballAt.j0]) ?_
   rw [wrap_id (x := level + 6) (by omega) (by omega), wrap_id (x := (vl p num : Int) - vl p den + 6) (by omega) (by omega)]
   simp only [if_neg Bool.false_ne_true, if_neg (show ¬ (vl p num : Int) - vl p den < -6 by omega)]
   obtain ⟨un, hun, hund, _⟩ := vl_split h num hz
   obtain ⟨ud, hud, hudd, _⟩ := vl_split h den hden
   have h12 := pow_le_seven h (m := (level + 6).toNat) (n := 12) (by omega)
   have e12 : (7 : Int) ^ 12 = 13841287201 := by decide
   have hpp := pow_pos' h (level + 6).toNat
   obtain ⟨inv, hinv, _, _, hid⟩ := inverse_ev h (n := ud) (e := (level + 6).toNat) (by omega) hudd
   rw [bnd (power_ev h (by omega)), bnd (unit_ev h hz hun (by omega) (by omega)), bnd (unit_ev h hden hud (by omega) (by omega)), bnd hinv, bnd (times_ev hpp (by omega)),
    bnd (power_ev h (by omega)), bnd (times_ev hpp (by omega))]
   have y0 := Int.emod_nonneg (un * inv % p ^ (level + 6).toNat * p ^ ((vl p num : Int) - vl p den + 6).toNat) (Int.ne_of_gt hpp)
   have y1 := Int.emod_lt_of_pos (un * inv % p ^ (level + 6).toNat * p ^ ((vl p num : Int) - vl p den + 6).toNat) hpp
   rw [bnd (ofMark_ev h (by omega))]
   simp only [show (-6 ≤ level ∧ level ≤ 6) from ⟨l0, l1⟩, and_self, if_true]
   have hnear : p ^ (level + 6).toNat ∣ un * inv % p ^ (level + 6).toNat * p ^ ((vl p num : Int) - vl p den + 6).toNat % p ^ (level + 6).toNat - x := by
    have e2 : ((vl p num : Int) - vl p den + 6).toNat = vl p num + 6 - vl p den := by omega
    rw [e2, mul_emod_left]
    refine dvd_of_shift h hudd (b := vl p den) ?_
    obtain ⟨j, hj⟩ := dvd_emod_sub (un * inv * p ^ (vl p num + 6 - vl p den)) (p ^ (level + 6).toNat)
    obtain ⟨i, hi⟩ := hid
    generalize un * inv * p ^ (vl p num + 6 - vl p den) % p ^ (level + 6).toNat = X at *
    have e3 : (X - x) * (p ^ vl p den * ud) = (X * (p ^ vl p den * ud) - num * p ^ 6) - (x * den - num * p ^ 6) := by rw [← hud, Int.sub_mul]; omega
    rw [e3]
    refine Int.dvd_sub ⟨un * p ^ (vl p num + 6 - vl p den) * i + j * ud, ?_⟩ hx
    have e4 : X = un * inv * p ^ (vl p num + 6 - vl p den) + p ^ (level + 6).toNat * j := by omega
    have e5 : inv * ud = 1 + p ^ (level + 6).toNat * i := by omega
    have e6 : p ^ (vl p num + 6 - vl p den) * p ^ vl p den = p ^ (vl p num + 6) := by rw [← Int.pow_add]; congr 1; omega
    have e7 : num * p ^ 6 = p ^ (vl p num + 6) * un := by
     conv => lhs; arg 1; rw [hun]
     rw [Int.pow_add, Int.mul_assoc, Int.mul_comm un, ← Int.mul_assoc]
    have e8 : un * inv * p ^ (vl p num + 6 - vl p den) * (p ^ vl p den * ud) = p ^ (vl p num + 6) * un * (inv * ud) := by
     rw [← e6]; simp only [Int.mul_assoc, Int.mul_comm, Int.mul_left_comm]
    have e9 : p ^ (vl p num + 6) * un * (p ^ (level + 6).toNat * i) = p ^ ((level + 6).toNat + vl p den) * (un * p ^ (vl p num + 6 - vl p den) * i) := by
     rw [← e6, Int.pow_add p (level + 6).toNat]; simp only [Int.mul_assoc, Int.mul_comm, Int.mul_left_comm]
    have e10 : p ^ (level + 6).toNat * j * (p ^ vl p den * ud) = p ^ ((level + 6).toNat + vl p den) * (j * ud) := by
     rw [Int.pow_add p (level + 6).toNat]; simp only [Int.mul_assoc, Int.mul_comm, Int.mul_left_comm]
    rw [e4, Int.add_mul, e8, e5, Int.mul_add, Int.mul_one, e9, e10, e7, Int.mul_add]
    omega
   have hc := ofM_congr (p := p) (l := level) (emod_eq_of_dvd hnear)
   rw [hc.1, hc.2]
   exact Ev.now _
theorem ballAt_no {p num den level : Int} (h : IsP p) (l0 : -6 ≤ level) (l1 : level ≤ 6) (hden : den ≠ 0) (hnum : num ≠ 0)
  (n0 : -4000000000000000000 ≤ num ∧ num ≤ 4000000000000000000) (d0 : -4000000000000000000 ≤ den ∧ den ≤ 4000000000000000000) (hfit : vl p num + 6 < vl p den) :
  Ev (fun k => impl_ballAt.f k p num den level) (0, 0, 0, false) := by
 unfold impl_ballAt.f
 simp only [isLevel_eq, Option.bind_some, show (-6 ≤ level ∧ level ≤ 6) from ⟨l0, l1⟩, and_self, decide_true, if_true, if_neg hnum]
 have b1 := vl_le_62 h hnum (by omega) (by omega)
 have b2 := vl_le_62 h hden (by omega) (by omega)
 rw [bnd (valuation_ev h hnum (by omega) (by omega)), bnd (valuation_ev h hden (by omega) (by omega))]
 have e1 : wrap64 ((vl p num : Int) - vl p den) = (vl p num : Int) - vl p den := wrap_id (by omega) (by omega)
 simp only [e1, show decide ((vl p num : Int) - vl p den ≥ level) = false from decide_eq_false (by omega)]
 refine Ev.step (fun k => by rw [impl_ballAt.j0]) ?_
 simp only [if_neg Bool.false_ne_true, if_pos (show (vl p num : Int) - vl p den < -6 by omega)]
 exact Ev.now _
theorem ballAt_out {p num den level : Int} (hl : ¬ (-6 ≤ level ∧ level ≤ 6)) : Ev (fun k => impl_ballAt.f k p num den level) (0, 0, 0, false) := by
 unfold impl_ballAt.f
 simp only [isLevel_eq, Option.bind_some, hl, decide_false, if_neg Bool.false_ne_true]
 exact Ev.now _
def AtIs (p num den level : Int) (r : Int × Int × Int × Bool) : Prop :=
 (-6 ≤ level ∧ level ≤ 6 ∧ (num = 0 ∨ vl p den ≤ vl p num + 6) ∧ ∃ x, p ^ ((level + 6).toNat + vl p den) ∣ x * den - num * p ^ 6 ∧ r = (level, ofMt p level x, (ofMd p level x : Int), true)) ∨
 (¬ (-6 ≤ level ∧ level ≤ 6 ∧ (num = 0 ∨ vl p den ≤ vl p num + 6)) ∧ r = (0, 0, 0, false))
theorem at_both {p num den level : Int} (h : IsP p) (hden : den ≠ 0)
  (n0 : -4000000000000000000 ≤ num ∧ num ≤ 4000000000000000000) (d0 : -4000000000000000000 ≤ den ∧ den ≤ 4000000000000000000) :
  ∃ r, Ev (fun k => spec_l01Of.f k p num den level) r ∧ Ev (fun k => impl_ballAt.f k p num den level) r ∧ AtIs p num den level r := by
 by_cases hl : -6 ≤ level ∧ level ≤ 6
 ·by_cases hfit : num = 0 ∨ vl p den ≤ vl p num + 6
  ·obtain ⟨x, hx⟩ := near_exists h hden hfit (level + 6).toNat
   exact ⟨_, l01Of_ev h hl.1 hl.2 hden n0 d0 hx hfit, ballAt_ev h hl.1 hl.2 hden n0 d0 hx hfit, .inl ⟨hl.1, hl.2, hfit, x, hx, rfl⟩⟩
  ·have hnum : num ≠ 0 := fun e => hfit (.inl e)
   exact ⟨_, l01Of_no h hl.1 hl.2 hden hnum n0 d0 (by omega), ballAt_no h hl.1 hl.2 hden hnum n0 d0 (by omega), .inr ⟨fun hc => hfit hc.2.2, rfl⟩⟩
 ·exact ⟨_, l01Of_out hl, ballAt_out hl, .inr ⟨fun hc => hl ⟨hc.1, hc.2.1⟩, rfl⟩⟩
def BallOfIs (p num den level : Int) (r : Int × Int × Int × Int) : Prop :=
 (¬ IsP p ∧ r = (0, 0, 0, 1)) ∨
 (IsP p ∧ ¬ (((-100000000000000000 ≤ num ∧ num ≤ 100000000000000000) ∧ -100000000000000000 ≤ den ∧ den ≤ 100000000000000000) ∧ -6 ≤ level ∧ level ≤ 6) ∧ r = (0, 0, 0, 2)) ∨
 (IsP p ∧ den = 0 ∧ r = (0, 0, 0, 5)) ∨
 (IsP p ∧ den ≠ 0 ∧ ∃ q, AtIs p num den level q ∧ r = fitR q)
theorem ballOf_both (p num den level : Int) : ∃ r, Ev (fun k => spec_BallOf.f k p num den level) r ∧ Ev (fun k => impl_BallOf.f k p num den level) r ∧ BallOfIs p num den level r := by
 unfold spec_BallOf.f impl_BallOf.f
 simp only [l01Prime_eq, isPrime_eq, Option.bind_some]
 by_cases hp : IsP p
 ·simp only [hp, decide_true, if_true]
  have hfr := l01Fraction_ev (n := num) (d := den) (m := 100000000000000000) (by omega) (by omega)
  have hw := within2 (m := 100000000000000000) (a := num) (b := den) (by omega) (by omega)
  by_cases h1 : (-100000000000000000 ≤ num ∧ num ≤ 100000000000000000) ∧ -100000000000000000 ≤ den ∧ den ≤ 100000000000000000
  ·by_cases hl : -6 ≤ level ∧ level ≤ 6
   ·by_cases hz : den = 0
    ·refine ⟨(0, 0, 0, 5), ?_, ?_, .inr (.inr (.inl ⟨hp, hz, rfl⟩))⟩
     ·rw [bnd hfr]
      simp only [h1, and_self, if_true, if_pos hz, l01In_eq, Option.bind_some, hl, decide_true]
      refine Ev.step (fun k => by rw [spec_BallOf.j0]) ?_
      simp only [if_neg (show ¬ (5 : Int) = 0 by omega)]; exact Ev.now _
     ·rw [bnd hw]
      simp only [h1, and_self, if_true, isLevel_eq, Option.bind_some, hl, decide_true, Bool.not_true]
      refine Ev.step (fun k => by rw [impl_BallOf.j0]) ?_
      simp only [if_neg Bool.false_ne_true, if_pos hz]; exact Ev.now _
    ·obtain ⟨r, hr, hr', hi⟩ := at_both (num := num) (level := level) hp hz (by omega) (by omega)
     refine ⟨fitR r, ?_, ?_, .inr (.inr (.inr ⟨hp, hz, r, hi, rfl⟩))⟩
     ·rw [bnd hfr]
      simp only [h1, and_self, if_true, if_neg hz, l01In_eq, Option.bind_some, hl, decide_true]
      refine Ev.step (fun k => by rw [spec_BallOf.j0]) ?_
      simp only [if_true]
      rw [bnd hr]
      unfold fitR
      by_cases h2 : r.2.2.2 = true
      ·simp only [if_pos h2]; exact Ev.now _
      ·simp only [if_neg h2]; exact Ev.now _
     ·rw [bnd hw]
      simp only [h1, and_self, if_true, isLevel_eq, Option.bind_some, hl, decide_true, Bool.not_true]
      refine Ev.step (fun k => by rw [impl_BallOf.j0]) ?_
      simp only [if_neg Bool.false_ne_true, if_neg hz]
      rw [bnd hr']
      simp only [fitted_eq, Option.bind_some]
      exact Ev.now _
   ·refine ⟨(0, 0, 0, 2), ?_, ?_, .inr (.inl ⟨hp, fun hc => hl hc.2, rfl⟩)⟩
    ·rw [bnd hfr]
     simp only [h1, and_self, if_true, l01In_eq, Option.bind_some, hl, decide_false, if_neg Bool.false_ne_true]
     refine Ev.step (fun k => by rw [spec_BallOf.j0]) ?_
     simp only [if_neg (show ¬ (2 : Int) = 0 by omega)]; exact Ev.now _
    ·rw [bnd hw]
     simp only [h1, and_self, if_true, decide_true, isLevel_eq, Option.bind_some, hl, decide_false, Bool.not_false]
     refine Ev.step (fun k => by rw [impl_BallOf.j0]) ?_
     simp only [if_true]; exact Ev.now _
  ·refine ⟨(0, 0, 0, 2), ?_, ?_, .inr (.inl ⟨hp, fun hc => h1 hc.1, rfl⟩)⟩
   ·rw [bnd hfr]
    simp only [h1, if_false, l01In_eq, Option.bind_some]
    by_cases hl : -6 ≤ level ∧ level ≤ 6
    ·simp only [hl, and_self, decide_true, if_true]
     refine Ev.step (fun k => by rw [spec_BallOf.j0]) ?_
     simp only [if_neg (show ¬ (2 : Int) = 0 by omega)]; exact Ev.now _
    ·simp only [hl, decide_false, if_neg Bool.false_ne_true]
     refine Ev.step (fun k => by rw [spec_BallOf.j0]) ?_
     simp only [if_neg (show ¬ (2 : Int) = 0 by omega)]; exact Ev.now _
   ·rw [bnd hw]
    simp only [h1, decide_false, if_neg Bool.false_ne_true]
    refine Ev.step (fun k => by rw [impl_BallOf.j0]) ?_
    simp only [if_true]; exact Ev.now _
 ·simp only [hp, decide_false, if_neg Bool.false_ne_true]
  exact ⟨_, Ev.now _, Ev.now _, .inl ⟨hp, rfl⟩⟩
def BallOfEndIs (p num den level : Int) (r : Int × Int × Int × Int) : Prop :=
 (¬ (IsP p ∧ EndOk num den) ∧ r = (0, 0, 0, 1)) ∨ (IsP p ∧ EndOk num den ∧ ¬ (-6 ≤ level ∧ level ≤ 6) ∧ r = (0, 0, 0, 2)) ∨
 (IsP p ∧ EndOk num den ∧ (-6 ≤ level ∧ level ≤ 6) ∧ den = 0 ∧ r = (0, 0, 0, 5)) ∨
 (IsP p ∧ EndOk num den ∧ (-6 ≤ level ∧ level ≤ 6) ∧ den ≠ 0 ∧ ∃ q, AtIs p num den level q ∧ r = fitR q)
theorem pow_split {p : Int} {a b c : Nat} (h : a + b = c) : p ^ a * p ^ b = p ^ c := by rw [← Int.pow_add, h]
def Src (l : List Int) (at_ : Int) : Prop := (∀ x ∈ l, 0 ≤ x ∧ x ≤ 255) ∧ 0 ≤ at_ ∧ at_ ≤ l.length ∧ l.length ≤ 4097
theorem mask34 {x : Int} (h0 : 0 ≤ x) (h1 : x < 18446744073709551616) : Go.bits .and .u64 x 17179869183 = x % 17179869184 := by
 have := bits_mask .u64 64 (by decide) wraps_u64 34 (by decide) x h0 (by simpa using h1)
 simpa using this
theorem rd_mem {l : List Int} {i : Int} (h0 : 0 ≤ i) (h1 : i < l.length) : rd l i ∈ l := by
 unfold rd
 rw [List.getD_eq_getElem?_getD, List.getElem?_eq_getElem (by omega)]
 exact List.getElem_mem _
theorem tmod_in {x n : Int} (h0 : 0 ≤ x) (h1 : 1 ≤ n) : 0 ≤ Int.tmod x n ∧ Int.tmod x n < n := by
 rw [Int.tmod_eq_emod_of_nonneg h0]
 exact ⟨Int.emod_nonneg _ (by omega), Int.emod_lt_of_pos _ (by omega)⟩
theorem next_eq {l : List Int} {c h n : Int} (hs : Src l c) (hn : 1 ≤ n) : ∃ x c' h', spec_l01Next.f l c h n = some (x, c', h') ∧ (0 ≤ x ∧ x < n) ∧ Src l c' := by
 obtain ⟨hb, c0, c1, hl⟩ := hs
 unfold spec_l01Next.f
 simp only [if_neg (show ¬ n < 1 by omega), if_neg (show ¬ n = 0 by omega)]
 have hw : ∀ y : Int, (0 ≤ IntKind.u64.wrap y / 8388608) ∧ IntKind.u64.wrap y / 8388608 < 18446744073709551616 := fun y => by rw [wrapu]; omega
 rw [mask34 (hw _).1 (hw _).2]
 generalize IntKind.u64.wrap (IntKind.u64.wrap (h * 6364136223846793005) + 1442695040888963407) = H
 have hm : 0 ≤ H / 8388608 % 17179869184 ∧ H / 8388608 % 17179869184 < 17179869184 := by omega
 generalize H / 8388608 % 17179869184 = y at *
 rw [wrap_id (x := y) (by omega) (by omega)]
 by_cases hc : c < (l.length : Int)
 ·have hr := hb _ (rd_mem c0 hc)
  simp only [if_pos hc, if_pos c0]
  rw [wrap_id (x := rd l c) (by omega) (by omega), wrap_id (x := y + rd l c) (by omega) (by omega), wrap_id (x := c + 1) (by omega) (by omega)]
  exact ⟨_, _, _, rfl, tmod_in (by omega) hn, hb, by omega, by omega, hl⟩
 ·simp only [if_neg hc]
  exact ⟨_, _, _, rfl, tmod_in (by omega) hn, hb, c0, c1, hl⟩
theorem pick_eq {l : List Int} {c h : Int} {xs : List Int} (hs : Src l c) (hx : 1 ≤ xs.length) (hx' : xs.length ≤ 1000) : ∃ x c' h', spec_l01Pick.f l c h xs = some (x, c', h') ∧ x ∈ xs ∧ Src l c' := by
 unfold spec_l01Pick.f
 obtain ⟨x, c', h', e, hr, hs'⟩ := next_eq (h := h) hs (show 1 ≤ (xs.length : Int) by omega)
 rw [e]
 simp only [Option.bind_some, if_pos hr.1, if_pos hr.2]
 exact ⟨_, _, _, rfl, rd_mem hr.1 hr.2, hs'⟩
theorem from_l {l : List Int} : ∀ (d i : Nat) (h : Int), i + d = l.length → ∃ h', Ev (fun k => spec_l01From.l0 k l i l 0 h) (l, 0, h') := by
 intro d
 induction d with
 | zero =>
  intro i h hi
  refine ⟨h, Ev.step (fun k => by rw [spec_l01From.l0]) ?_⟩
  simp only [if_neg (show ¬ (i : Int) < (l.length : Int) by omega)]
  exact Ev.now _
 | succ d ih =>
  intro i h hi
  by_cases h4 : (i : Int) < 4096
  ·obtain ⟨h', e⟩ := ih (i + 1) (IntKind.u64.wrap ((IntKind.u64.wrap ((IntKind.u64.wrap (h * 1099511628211)) + (IntKind.u64.wrap (rd l i)))) + 71)) (by omega)
   refine ⟨h', Ev.step (fun k => by rw [spec_l01From.l0]) ?_⟩
   simp only [if_pos (show (i : Int) < (l.length : Int) by omega), if_pos h4, if_pos (show (0 : Int) ≤ i by omega)]
   rw [wrap_id (x := (i : Int) + 1) (by omega) (by omega)]
   exact e
  ·refine ⟨h, Ev.step (fun k => by rw [spec_l01From.l0]) ?_⟩
   simp only [if_pos (show (i : Int) < (l.length : Int) by omega), if_neg h4]
   exact Ev.now _
theorem from_ev {l : List Int} (hb : ∀ x ∈ l, (Lit.int .u8 x).wf = true) (hl : l.length ≤ 4097) : ∃ h, Ev (fun k => spec_l01From.f k l) (l, 0, h) ∧ Src l 0 := by
 obtain ⟨h, e⟩ := from_l (l := l) l.length 0 (IntKind.u64.wrap (12527 + (IntKind.u64.wrap ((l.length : Int))))) (by omega)
 refine ⟨h, e, fun x hx => ?_, by omega, by omega, hl⟩
 have := hb x hx
 simp [Lit.wf, IntKind.min, IntKind.max, IntKind.signed, IntKind.bits] at this; omega
def Sm (x : Int) : Prop := -4000000000000 ≤ x ∧ x ≤ 4000000000000
def SmB (l t d : Int) : Prop := Sm l ∧ Sm t ∧ Sm d
theorem Bal.sm {p l t d : Int} (hp : IsP p) (h : Bal p l t d) : (-6 ≤ l ∧ l ≤ 6) ∧ (0 ≤ t ∧ t ≤ 13841287201) ∧ 0 ≤ d ∧ d ≤ 6 := by
 have h1 := h.small hp
 unfold Bal at h
 split at h <;> omega
theorem Bal.zero {p l : Int} (hp : IsP p) (h : -6 ≤ l ∧ l ≤ 6) : Bal p l 0 0 := by
 by_cases hl : l + 0 ≤ 0
 ·rw [Bal_low hl]; omega
 ·rw [Bal_high hl]
  have := pow_pos' hp (l + 0).toNat
  exact ⟨h.1, h.2, by omega, by omega, by omega, this, .inl rfl⟩
theorem drawBall_ev {l : List Int} {c h p : Int} (hp : IsP p) (hs : Src l c) : ∃ lv t d c' h', Ev (fun k => spec_l01Draw.f k l c h p) (lv, t, d, c', h') ∧ Bal p lv t d ∧ Src l c' := by
 unfold spec_l01Draw.f
 obtain ⟨x1, c1, h1, e1, r1, s1⟩ := next_eq (h := h) hs (show (1 : Int) ≤ 13 by omega)
 obtain ⟨lv, c2, h2, e2, r2, s2⟩ := pick_eq (h := h1) (xs := [0, 1, 2, 3, wrap64 (x1 - 6)]) s1 (by simp) (by simp)
 obtain ⟨x3, c3, h3, e3, r3, s3⟩ := next_eq (h := h2) s2 (show (1 : Int) ≤ 6 by omega)
 have hlv : -6 ≤ lv ∧ lv ≤ 6 := by
  rw [wrap_id (x := x1 - 6) (by omega) (by omega)] at r2
  simp only [List.mem_cons, List.not_mem_nil, or_false] at r2; omega
 simp only [e1, e2, e3, Option.bind_some]
 by_cases h0 : x3 = 0
 ·simp only [if_pos h0]
  exact ⟨_, _, _, _, _, Ev.now _, Bal.zero hp hlv, s3⟩
 ·simp only [if_neg h0]
  obtain ⟨x4, c4, h4, e4, r4, s4⟩ := next_eq (h := h3) s3 (show (1 : Int) ≤ 20 by omega)
  obtain ⟨x5, c5, h5, e5, r5, s5⟩ := next_eq (h := h4) s4 (show (1 : Int) ≤ 2000000 by omega)
  obtain ⟨nm, c6, h6, e6, r6, s6⟩ := pick_eq (h := h5) (xs := [wrap64 (x4 - 10), wrap64 (x5 - 1000000)]) s5 (by simp) (by simp)
  obtain ⟨x7, c7, h7, e7, r7, s7⟩ := next_eq (h := h6) s6 (show (1 : Int) ≤ 7 by omega)
  obtain ⟨ex, c8, h8, e8, r8, s8⟩ := pick_eq (h := h7) (xs := [0, 0, 1, 2, x7]) s7 (by simp) (by simp)
  have hnm : -1000000 ≤ nm ∧ nm ≤ 1000000 := by
   rw [wrap_id (x := x4 - 10) (by omega) (by omega), wrap_id (x := x5 - 1000000) (by omega) (by omega)] at r6
   simp only [List.mem_cons, List.not_mem_nil, or_false] at r6; omega
  have hex : 0 ≤ ex ∧ ex ≤ 6 := by
   simp only [List.mem_cons, List.not_mem_nil, or_false] at r8; omega
  simp only [e4, e5, e6, e7, e8, Option.bind_some]
  have hof := l01Of_pow (t := nm) (level := lv) hp hex (by omega)
  rw [if_pos hlv] at hof
  refine ⟨lv, ofMt p lv (mk p nm ex), (ofMd p lv (mk p nm ex) : Int), c8, h8, ?_, ofM_bal hp hlv.1 hlv.2 _, s8⟩
  rw [bnd (l01Power_ev hp (show ex ≤ 22 by omega)), bnd hof]
  simp only [if_true]
  exact Ev.now _
theorem bad_eq {l : List Int} {c h lv t d : Int} (hs : Src l c) (hb : (-6 ≤ lv ∧ lv ≤ 6) ∧ (0 ≤ t ∧ t ≤ 13841287201) ∧ 0 ≤ d ∧ d ≤ 6) : ∃ lv' t' d' c' h', spec_l01Bad.f l c h lv t d = some (lv', t', d', c', h') ∧ SmB lv' t' d' ∧ Src l c' := by
 unfold spec_l01Bad.f SmB Sm
 obtain ⟨x1, c1, h1, e1, r1, s1⟩ := next_eq (h := h) hs (show (1 : Int) ≤ 40 by omega)
 simp only [e1, Option.bind_some]
 by_cases z0 : x1 = 0
 ·obtain ⟨y, c2, h2, e2, r2, s2⟩ := pick_eq (h := h1) (xs := [-7, 7, wrap64 (lv - 1), 1099511627776]) s1 (by simp) (by simp)
  simp only [if_pos z0, e2, Option.bind_some]
  rw [wrap_id (x := lv - 1) (by omega) (by omega)] at r2
  simp only [List.mem_cons, List.not_mem_nil, or_false] at r2
  exact ⟨_, _, _, _, _, rfl, by omega, s2⟩
 ·simp only [if_neg z0]
  by_cases z1 : x1 = 1
  ·obtain ⟨y, c2, h2, e2, r2, s2⟩ := pick_eq (h := h1) (xs := [-1, wrap64 (t * 7), 1099511627776]) s1 (by simp) (by simp)
   simp only [if_pos z1, e2, Option.bind_some]
   rw [wrap_id (x := t * 7) (by omega) (by omega)] at r2
   simp only [List.mem_cons, List.not_mem_nil, or_false] at r2
   exact ⟨_, _, _, _, _, rfl, by omega, s2⟩
  ·simp only [if_neg z1]
   by_cases z2 : x1 = 2
   ·obtain ⟨y, c2, h2, e2, r2, s2⟩ := pick_eq (h := h1) (xs := [-1, wrap64 (d + 1), 7]) s1 (by simp) (by simp)
    simp only [if_pos z2, e2, Option.bind_some]
    rw [wrap_id (x := d + 1) (by omega) (by omega)] at r2
    simp only [List.mem_cons, List.not_mem_nil, or_false] at r2
    exact ⟨_, _, _, _, _, rfl, by omega, s2⟩
   ·simp only [if_neg z2]
    exact ⟨_, _, _, _, _, rfl, by omega, s1⟩
theorem prime_eq {l : List Int} {c h : Int} (hs : Src l c) : ∃ p c' h', spec_l01DrawPrime.f l c h = some (p, c', h') ∧ IsP p ∧ Src l c' := by
 unfold spec_l01DrawPrime.f
 obtain ⟨p, c1, h1, e1, r1, s1⟩ := pick_eq (h := h) (xs := [2, 2, 3, 3, 5, 7]) hs (by simp) (by simp)
 simp only [e1, Option.bind_some]
 refine ⟨_, _, _, rfl, ?_, s1⟩
 simp only [List.mem_cons, List.not_mem_nil, or_false] at r1
 unfold IsP; omega
theorem spoil_ev {l : List Int} {c h : Int} (hs : Src l c) : ∃ p lv t d c' h', Ev (fun k => spec_l01Spoil.f k l c h) (p, lv, t, d, c', h') ∧ Sm p ∧ SmB lv t d ∧ Src l c' := by
 unfold spec_l01Spoil.f
 obtain ⟨p, c1, h1, e1, r1, s1⟩ := prime_eq (h := h) hs
 obtain ⟨lv, t, d, c2, h2, e2, r2, s2⟩ := drawBall_ev (h := h1) r1 s1
 obtain ⟨lv', t', d', c3, h3, e3, r3, s3⟩ := bad_eq (h := h2) s2 (Bal.sm r1 r2)
 obtain ⟨x4, c4, h4, e4, r4, s4⟩ := next_eq (h := h3) s3 (show (1 : Int) ≤ 40 by omega)
 by_cases z : x4 = 0
 ·obtain ⟨q, c5, h5, e5, r5, s5⟩ := pick_eq (h := h4) (xs := [0, 1, 4, 11, -3]) s4 (by simp) (by simp)
  refine ⟨q, lv', t', d', c5, h5, ?_, ?_, r3, s5⟩
  ·simp only [e1, Option.bind_some]
   rw [bnd e2]
   simp only [e3, e4, Option.bind_some, if_pos z, e5]
   exact Ev.now _
  ·simp only [List.mem_cons, List.not_mem_nil, or_false] at r5
   unfold Sm; omega
 ·refine ⟨p, lv', t', d', c4, h4, ?_, ?_, r3, s4⟩
  ·simp only [e1, Option.bind_some]
   rw [bnd e2]
   simp only [e3, e4, Option.bind_some, if_neg z]
   exact Ev.now _
  ·have := r1.two_le; have := r1.le_seven; unfold Sm; omega
theorem par_dvd {p l t d : Int} (h : IsP p) (hb : Bal p l t d) : p ^ (l - 1 + 6).toNat ∣ mk p t d - mk p (ofMt p (l - 1) (mk p t d)) (ofMd p (l - 1) (mk p t d)) := by
 rw [ofM_mark h]
 have h1 := Int.dvd_neg.2 (dvd_emod_sub (mk p t d) (p ^ (l - 1 + 6).toNat))
 rwa [show -(mk p t d % p ^ (l - 1 + 6).toNat - mk p t d) = mk p t d - mk p t d % p ^ (l - 1 + 6).toNat by omega] at h1
def ParOf (p l t d : Int) (c : S27) : Prop := Bal p c.f0 c.f1 c.f2 ∧ c.f0 = l - 1 ∧ p ^ (l - 1 + 6).toNat ∣ mk p t d - mk p c.f1 c.f2
theorem parOf {p l t d : Int} (h : IsP p) (hb : Bal p l t d) (hl : (ParR p l t d).2.2.2 = true) : ParOf p l t d ⟨(ParR p l t d).1, (ParR p l t d).2.1, (ParR p l t d).2.2.1⟩ := by
 unfold ParR at hl ⊢
 by_cases hz : -6 ≤ l - 1 ∧ l - 1 ≤ 6
 ·rw [if_pos hz]
  exact ⟨ofM_bal h hz.1 hz.2 _, rfl, par_dvd h hb⟩
 ·rw [if_neg hz] at hl
  exact absurd hl (by simp)
theorem par_bal {p lv t d : Int} (h : IsP p) (hb : Bal p lv t d) (hk : (ParR p lv t d).2.2.2 = true) : Bal p (ParR p lv t d).1 (ParR p lv t d).2.1 (ParR p lv t d).2.2.1 := (parOf h hb hk).1
theorem ups_l0 {q p b0 b1 b2 : Int} (hp : IsP p) : ∀ (n : Nat) (lv t d : Int), n ≤ 10 → Bal p lv t d → ∃ lv' t' d', Ev (fun k => spec_l01Two.l0 k q p n b0 b1 b2 lv t d) (q, b0, b1, b2, lv', t', d') ∧ Bal p lv' t' d' := by
 intro n
 induction n with
 | zero =>
  intro lv t d hn hb
  refine ⟨lv, t, d, Ev.step (fun k => by rw [spec_l01Two.l0]) ?_, hb⟩
  simp only [if_neg (show ¬ ((0 : Nat) : Int) > 0 by omega)]
  exact Ev.now _
 | succ n ih =>
  intro lv t d hn hb
  have ew : wrap64 (((n + 1 : Nat) : Int) - 1) = (n : Int) := by rw [wrap_id (by omega) (by omega)]; omega
  by_cases hk : (ParR p lv t d).2.2.2 = true
  ·obtain ⟨lv', t', d', e, r⟩ := ih _ _ _ (by omega) (par_bal hp hb hk)
   refine ⟨lv', t', d', Ev.step (fun k => by rw [spec_l01Two.l0]) ?_, r⟩
   simp only [if_pos (show ((n + 1 : Nat) : Int) > 0 by omega)]
   rw [bnd (l01Parent_ev hp hb), ew]
   simp only [if_pos hk]
   exact e
  ·obtain ⟨lv', t', d', e, r⟩ := ih lv t d (by omega) hb
   refine ⟨lv', t', d', Ev.step (fun k => by rw [spec_l01Two.l0]) ?_, r⟩
   simp only [if_pos (show ((n + 1 : Nat) : Int) > 0 by omega)]
   rw [bnd (l01Parent_ev hp hb), ew]
   simp only [if_neg hk]
   exact e
theorem Bal.smB {p l t d : Int} (hp : IsP p) (h : Bal p l t d) : SmB l t d := by
 have := Bal.sm hp h
 unfold SmB Sm; omega
theorem twoBalls_ev {l0 : List Int} (hbytes : ∀ x ∈ l0, (Lit.int .u8 x).wf = true) (hl : l0.length ≤ 4096) : ∃ p b0 b1 b2 c0 c1 c2, Ev (fun k => spec_l01Two.f k l0) (p, b0, b1, b2, c0, c1, c2) ∧ Sm p ∧ SmB b0 b1 b2 ∧ SmB c0 c1 c2 := by
 unfold spec_l01Two.f
 obtain ⟨h0, e0, s0⟩ := from_ev hbytes (by omega)
 obtain ⟨p, b0, b1, b2, c1, h1, e1, r1, w1, s1⟩ := spoil_ev (h := h0) s0
 have w1' := w1
 unfold SmB Sm at w1'
 have go : ∀ q, IsP q → ∃ x0 x1 x2, Ev (fun k => spec_l01Two.j0 k p q l0 c1 h1 b0 b1 b2) (p, b0, b1, b2, x0, x1, x2) ∧ SmB x0 x1 x2 := by
  intro q hq
  obtain ⟨lv, t, d, c2, h2, e2, r2, s2⟩ := drawBall_ev (h := h1) hq s1
  obtain ⟨lv', t', d', c3, h3, e3, r3, s3⟩ := bad_eq (h := h2) s2 (Bal.sm hq r2)
  obtain ⟨x4, c4, h4, e4, r4, s4⟩ := next_eq (h := h3) s3 (show (1 : Int) ≤ 3 by omega)
  have no : ∀ c h, Ev (fun k => spec_l01Two.j1 k p q false l0 c h b0 b1 b2 lv' t' d') (p, b0, b1, b2, lv', t', d') := by
   intro c h
   refine Ev.step (fun k => by rw [spec_l01Two.j1]) ?_
   simp only [if_neg Bool.false_ne_true]
   exact Ev.now _
  by_cases hz : x4 = 0
  ·by_cases hb : Bal q b0 b1 b2
   ·obtain ⟨x5, c5, h5, e5, r5, s5⟩ := next_eq (h := h4) s4 (show (1 : Int) ≤ 4 by omega)
    obtain ⟨y0, y1, y2, e6, r6⟩ := ups_l0 (q := p) (b0 := b0) (b1 := b1) (b2 := b2) hq x5.toNat b0 b1 b2 (by omega) hb
    rw [show (x5.toNat : Int) = x5 by omega] at e6
    refine ⟨y0, y1, y2, Ev.step (fun k => by rw [spec_l01Two.j0]) ?_, Bal.smB hq r6⟩
    rw [bnd e2]
    simp only [e3, e4, Option.bind_some, if_pos hz]
    rw [bnd (l01Is_ev (by omega) (by omega))]
    simp only [decide_eq_true (show IsP q ∧ Bal q b0 b1 b2 from ⟨hq, hb⟩)]
    refine Ev.step (fun k => by rw [spec_l01Two.j1]) ?_
    simp only [if_true, e5, Option.bind_some]
    exact e6
   ·refine ⟨lv', t', d', Ev.step (fun k => by rw [spec_l01Two.j0]) ?_, r3⟩
    rw [bnd e2]
    simp only [e3, e4, Option.bind_some, if_pos hz]
    rw [bnd (l01Is_ev (by omega) (by omega))]
    simp only [decide_eq_false (show ¬ (IsP q ∧ Bal q b0 b1 b2) from fun z => hb z.2)]
    exact no _ _
  ·refine ⟨lv', t', d', Ev.step (fun k => by rw [spec_l01Two.j0]) ?_, r3⟩
   rw [bnd e2]
   simp only [e3, e4, Option.bind_some, if_neg hz]
   exact no _ _
 by_cases hp : IsP p
 ·obtain ⟨x0, x1, x2, e, r⟩ := go p hp
  refine ⟨p, b0, b1, b2, x0, x1, x2, ?_, r1, w1, r⟩
  rw [bnd e0, bnd e1]
  simp only [l01Prime_eq, Option.bind_some, decide_eq_true hp, if_true]
  exact e
 ·obtain ⟨x0, x1, x2, e, r⟩ := go 2 (by unfold IsP; omega)
  refine ⟨p, b0, b1, b2, x0, x1, x2, ?_, r1, w1, r⟩
  rw [bnd e0, bnd e1]
  simp only [l01Prime_eq, Option.bind_some, decide_eq_false hp, if_neg Bool.false_ne_true]
  exact e
theorem powAny_l {b : Int} (hb : 0 ≤ b ∧ b ≤ 7) : ∀ (d : Nat) (a : Int), d ≤ 1000 → 0 ≤ a → a * 7 ^ d ≤ 1000000000 → ∃ r, Ev (fun k => spec_l01Power.l0 k b d a) r ∧ 0 ≤ r ∧ r ≤ a * 7 ^ d := by
 intro d
 induction d with
 | zero =>
  intro a hd a0 a1
  refine ⟨a, Ev.step (fun k => by rw [spec_l01Power.l0]) ?_, a0, by simp⟩
  simp only [if_neg (show ¬ ((0 : Nat) : Int) > 0 by omega)]
  exact Ev.now _
 | succ d ih =>
  intro a hd a0 a1
  have hp : (1 : Int) ≤ 7 ^ d := Int.pow_pos (by omega)
  have m1 : a * b ≤ a * 7 := Int.mul_le_mul_of_nonneg_left hb.2 a0
  have m0 : 0 ≤ a * b := Int.mul_nonneg a0 hb.1
  have m2 : a * b * 7 ^ d ≤ a * 7 * 7 ^ d := Int.mul_le_mul_of_nonneg_right m1 (by omega)
  have e : a * 7 ^ (d + 1) = a * 7 * 7 ^ d := by rw [Int.pow_succ, Int.mul_comm (7 ^ d), ← Int.mul_assoc]
  have m3 : a * b * 1 ≤ a * b * 7 ^ d := Int.mul_le_mul_of_nonneg_left hp m0
  obtain ⟨r, hr, r0, r1⟩ := ih (a * b) (by omega) m0 (by omega)
  refine ⟨r, Ev.step (fun k => by rw [spec_l01Power.l0]) ?_, r0, by omega⟩
  simp only [if_pos (show ((d + 1 : Nat) : Int) > 0 by omega)]
  rw [show wrap64 (((d + 1 : Nat) : Int) - 1) = (d : Int) by rw [wrap_id (by omega) (by omega)]; omega, wrap_id (x := a * b) (by omega) (by omega)]
  exact hr
theorem powAny_ev {b e : Int} (hb : 0 ≤ b ∧ b ≤ 7) (he : 0 ≤ e ∧ e ≤ 6) : ∃ r, Ev (fun k => spec_l01Power.f k b e) r ∧ 0 ≤ r ∧ r ≤ 117649 := by
 obtain ⟨n, rfl⟩ : ∃ n : Nat, e = n := ⟨e.toNat, by omega⟩
 have h7 : (7 : Int) ^ n ≤ 7 ^ 6 := by
  obtain ⟨d, hd⟩ := Nat.le.dest (show n ≤ 6 by omega)
  rw [← hd, Int.pow_add]
  have p1 : (1 : Int) ≤ 7 ^ d := Int.pow_pos (by omega)
  have p2 : (0 : Int) < 7 ^ n := Int.pow_pos (by omega)
  have := Int.mul_le_mul_of_nonneg_left p1 (Int.le_of_lt p2)
  omega
 have e6 : (7 : Int) ^ 6 = 117649 := by decide
 obtain ⟨r, hr, r0, r1⟩ := powAny_l hb n 1 (by omega) (by omega) (by omega)
 exact ⟨r, hr, r0, by omega⟩
theorem parts_ev {l : List Int} {c h p m : Int} (hs : Src l c) (hm : 1 ≤ m ∧ m ≤ 100000000000000000) :
  ∃ n d c' h', Ev (fun k => spec_l01Parts.f k l c h p m) (n, d, c', h') ∧ Src l c' := by
 have hq : 0 ≤ mn (mx p 2) 7 ∧ mn (mx p 2) 7 ≤ 7 := by unfold mn mx; (repeat' split) <;> omega
 obtain ⟨x1, c1, h1, e1, r1, s1⟩ := next_eq (h := h) hs (show (1 : Int) ≤ 20 by omega)
 obtain ⟨x2, c2, h2, e2, r2, s2⟩ := next_eq (h := h1) s1 hm.1
 obtain ⟨n, c3, h3, e3, r3, s3⟩ := pick_eq (h := h2) (xs := [0, wrap64 (x1 - 10), wrap64 (x2 - (wrap64 (Int.tdiv m 2))), m, wrap64 (-m), wrap64 (m + 1)]) s2 (by simp) (by simp)
 obtain ⟨x4, c4, h4, e4, r4, s4⟩ := next_eq (h := h3) s3 (show (1 : Int) ≤ 30 by omega)
 obtain ⟨x5, c5, h5, e5, r5, s5⟩ := next_eq (h := h4) s4 (show (1 : Int) ≤ 6 by omega)
 obtain ⟨w1, pw1, _⟩ := powAny_ev hq (show 0 ≤ x5 ∧ x5 ≤ 6 by omega)
 obtain ⟨x6, c6, h6, e6, r6, s6⟩ := next_eq (h := h5) s5 (show (1 : Int) ≤ 4 by omega)
 obtain ⟨w2, pw2, _⟩ := powAny_ev hq (show 0 ≤ x6 ∧ x6 ≤ 6 by omega)
 obtain ⟨x7, c7, h7, e7, r7, s7⟩ := next_eq (h := h6) s6 (show (1 : Int) ≤ 9 by omega)
 obtain ⟨x8, c8, h8, e8, r8, s8⟩ := next_eq (h := h7) s7 hm.1
 obtain ⟨d, c9, h9, e9, r9, s9⟩ := pick_eq (h := h8) (xs := [1, -1, wrap64 (1 + x4), w1, wrap64 (w2 * (wrap64 (1 + x7))), x8]) s8 (by simp) (by simp)
 obtain ⟨x10, c10, h10, e10, r10, s10⟩ := next_eq (h := h9) s9 (show (1 : Int) ≤ 30 by omega)
 obtain ⟨d', c11, h11, e11, r11, s11⟩ := pick_eq (h := h10) (xs := [0, wrap64 (m + 1)]) s10 (by simp) (by simp)
 have start : ∀ z, Ev (fun k => if x10 = 0 then ((spec_l01Pick.f l c10 h10 ([0, wrap64 (m + 1)] : List Int)).bind fun bt183 => (some (n, bt183.1, bt183.2.1, bt183.2.2))) else some (n, d, c10, h10)) z → Ev (fun k => spec_l01Parts.f k l c h p m) z := by
  intro z hz
  unfold spec_l01Parts.f
  simp only [e1, e2, e3, e4, e5, Option.bind_some]
  rw [bnd pw1]
  simp only [e6, Option.bind_some]
  rw [bnd pw2]
  simp only [e7, e8, e9, e10, Option.bind_some]
  exact hz
 by_cases hz : x10 = 0
 ·refine ⟨n, d', c11, h11, start _ ?_, s11⟩
  simp only [if_pos hz, e11, Option.bind_some]
  exact Ev.now _
 ·refine ⟨n, d, c10, h10, start _ ?_, s10⟩
  simp only [if_neg hz]
  exact Ev.now _
theorem near_eq {l : List Int} {c h : Int} (hs : Src l c) : ∃ x c' h', spec_l01Near.f l c h 12 = some (x, c', h') ∧ Src l c' := by
 unfold spec_l01Near.f
 obtain ⟨x1, c1, h1, e1, r1, s1⟩ := next_eq (h := h) hs (show (1 : Int) ≤ 14 by omega)
 have ew : wrap64 ((12 : Int) + 1) = 13 := wrap_id (by omega) (by omega)
 simp only [e1, Option.bind_some, ew]
 by_cases hz : x1 = 0
 ·obtain ⟨y, c2, h2, e2, r2, s2⟩ := pick_eq (h := h1) (xs := [-1, 13, 1099511627776, -4611686018427387904]) s1 (by simp) (by simp)
  simp only [if_pos hz, e2, Option.bind_some]
  exact ⟨_, _, _, rfl, s2⟩
 ·obtain ⟨y, c2, h2, e2, r2, s2⟩ := next_eq (h := h1) s1 (show (1 : Int) ≤ 13 by omega)
  simp only [if_neg hz, e2, Option.bind_some]
  exact ⟨_, _, _, rfl, s2⟩
theorem ballOfEnd_impl (p num den level : Int) : ∃ r, Ev (fun k => impl_BallOfEnd.f k p num den level) r ∧ BallOfEndIs p num den level r := by
 unfold impl_BallOfEnd.f
 simp only [isPrime_eq, Option.bind_some]
 by_cases hp : IsP p
 ·simp only [hp, decide_true, if_true]
  refine (fun h : ∃ r, Ev (fun k => impl_BallOfEnd.j0 k p level (!decide (EndOk num den)) num den) r ∧ BallOfEndIs p num den level r => h.elim fun r hr => ⟨r, (bnd IsEnd_ev).2 hr.1, hr.2⟩) ?_
  by_cases he : EndOk num den
  ·simp only [he, decide_true, Bool.not_true]
   by_cases hl : -6 ≤ level ∧ level ≤ 6
   ·by_cases hz : den = 0
    ·refine ⟨(0, 0, 0, 5), ?_, .inr (.inr (.inl ⟨hp, he, hl, hz, rfl⟩))⟩
     refine Ev.step (fun k => by rw [impl_BallOfEnd.j0]) ?_
     simp only [if_neg Bool.false_ne_true, isLevel_eq, Option.bind_some, hl, and_self, decide_true, if_true, if_pos hz]; exact Ev.now _
    ·have hrg : (-1000000 ≤ num ∧ num ≤ 1000000) ∧ -1000000 ≤ den ∧ den ≤ 1000000 := by
      have := he; unfold EndOk at this; rw [if_neg hz] at this; omega
     obtain ⟨r, _, hr', hi⟩ := at_both (num := num) (level := level) hp hz (by omega) (by omega)
     refine ⟨fitR r, ?_, .inr (.inr (.inr ⟨hp, he, hl, hz, r, hi, rfl⟩))⟩
     refine Ev.step (fun k => by rw [impl_BallOfEnd.j0]) ?_
     simp only [if_neg Bool.false_ne_true, isLevel_eq, Option.bind_some, hl, and_self, decide_true, if_true, if_neg hz]
     rw [bnd hr']
     simp only [fitted_eq, Option.bind_some]
     exact Ev.now _
   ·refine ⟨(0, 0, 0, 2), ?_, .inr (.inl ⟨hp, he, hl, rfl⟩)⟩
    refine Ev.step (fun k => by rw [impl_BallOfEnd.j0]) ?_
    simp only [if_neg Bool.false_ne_true, isLevel_eq, Option.bind_some, hl, decide_false]; exact Ev.now _
  ·refine ⟨(0, 0, 0, 1), ?_, .inl ⟨fun hc => he hc.2, rfl⟩⟩
   simp only [he, decide_false, Bool.not_false]
   refine Ev.step (fun k => by rw [impl_BallOfEnd.j0]) ?_
   simp only [if_true]; exact Ev.now _
 ·simp only [hp, decide_false, if_neg Bool.false_ne_true]
  refine ⟨(0, 0, 0, 1), ?_, .inl ⟨fun hc => hp hc.1, rfl⟩⟩
  refine Ev.step (fun k => by rw [impl_BallOfEnd.j0]) ?_
  simp only [if_true]; exact Ev.now _
theorem made_holds {p num den level : Int} {r : Int × Int × Int × Int} (h : BallOfIs p num den level r) (hz : r.2.2.2 = 0) (hn : -1000000 ≤ num ∧ num ≤ 1000000) (hd : -1000000 ≤ den ∧ den ≤ 1000000) :
  HoldsFR p r.1 r.2.1 r.2.2.1 num den = (true, 0) ∧ IsP p ∧ Bal p r.1 r.2.1 r.2.2.1 := by
 rcases h with ⟨_, rfl⟩ | ⟨_, _, rfl⟩ | ⟨_, _, rfl⟩ | ⟨hp, hden, q, hq, rfl⟩
 ·exact absurd hz (by simp)
 ·exact absurd hz (by simp)
 ·exact absurd hz (by simp)
 ·rcases hq with ⟨l0, l1, hfit, x, hx, rfl⟩ | ⟨_, rfl⟩
  ·unfold fitR
   simp only [if_true]
   have hb := ofM_bal hp l0 l1 x
   have hnear := (near_iff hp hb hden hx).1 ⟨rfl, rfl⟩
   have hge := (nn_ge (t := ofMt p level x) (d := (ofMd p level x : Int)) hp l0 l1 hden).2 hnear
   refine ⟨?_, hp, hb⟩
   unfold HoldsFR
   rw [if_pos ⟨hp, hb⟩, if_pos ⟨hn, hd⟩, if_neg hden]
   congr 1
   exact decide_eq_true hge
  ·unfold fitR at hz
   exact absurd hz (by simp)
theorem centre_back {p l t d : Int} (hz : (CentreR p l t d).2.2 = 0) {r : Int × Int × Int × Int} (h : BallOfEndIs p (CentreR p l t d).1 (CentreR p l t d).2.1 l r) : r = (l, t, d, 0) := by
 by_cases hb : IsP p ∧ Bal p l t d
 ·have hr := Bal.sm hb.1 hb.2
  have hpd := pow_ne' hb.1 d.toNat
  by_cases hok : (EAt t (p ^ d.toNat)).2.2 = true
  ·have hC : CentreR p l t d = ((EAt t (p ^ d.toNat)).1, (EAt t (p ^ d.toNat)).2.1, 0) := by unfold CentreR; rw [if_pos hb, if_pos hok]
   have hE : EAt t (p ^ d.toNat) = (edN t (p ^ d.toNat), edD t (p ^ d.toNat), decide (EndOk (edN t (p ^ d.toNat)) (edD t (p ^ d.toNat)))) := by unfold EAt; rw [if_neg hpd]
   have hEnd := EAt_ok hok
   rw [hC] at h
   rw [hE] at h hEnd
   dsimp only at h hEnd
   obtain ⟨f1, f2, f3, f4, f5, f6, f7⟩ := ed_facts (n := t) hpd
   have hD : edD t (p ^ d.toNat) ≠ 0 := by omega
   have hg : edG t (p ^ d.toNat) ≠ 0 := (edG_facts hpd).1
   have hkey : mk p t d * edD t (p ^ d.toNat) - edN t (p ^ d.toNat) * p ^ 6 = 0 := by
    have e1 : mk p t d * p ^ d.toNat = t * p ^ 6 := by
     unfold mk
     rw [Int.mul_assoc, pow_split (show (6 - d).toNat + d.toNat = 6 by omega)]
    have e2 : edG t (p ^ d.toNat) * (mk p t d * edD t (p ^ d.toNat) - edN t (p ^ d.toNat) * p ^ 6) = 0 := by
     rw [Int.mul_sub, ← Int.mul_assoc, Int.mul_comm (edG t (p ^ d.toNat)) (mk p t d), Int.mul_assoc, ← f7, e1, ← Int.mul_assoc, ← f6]
     omega
    exact (Int.mul_eq_zero.1 e2).resolve_left hg
   rcases h with ⟨hno, _⟩ | ⟨_, _, hno, _⟩ | ⟨_, _, _, hno, _⟩ | ⟨_, _, _, _, q, hq, rfl⟩
   ·exact absurd ⟨hb.1, hEnd⟩ hno
   ·exact absurd hr.1 hno
   ·exact absurd hno hD
   ·rcases hq with ⟨l0, l1, hfit, x, hx, rfl⟩ | ⟨hno, _⟩
    ·have := (near_iff hb.1 hb.2 hD hx).2 (by rw [hkey]; exact Int.dvd_zero _)
     unfold fitR
     simp only [if_true, this.1, this.2]
    ·exfalso
     refine hno ⟨hr.1.1, hr.1.2, ?_⟩
     exact fit_of_near hb.1 hr.1.1 hD (by rw [hkey]; exact Int.dvd_zero _)
  ·unfold CentreR at hz; rw [if_pos hb, if_neg hok] at hz
   exact absurd hz (by simp)
 ·unfold CentreR at hz; rw [if_neg hb] at hz
  exact absurd hz (by simp)
theorem centre_bal {p l t d : Int} (hz : (CentreR p l t d).2.2 = 0) : IsP p ∧ Bal p l t d := by
 by_cases hb : IsP p ∧ Bal p l t d
 ·exact hb
 ·unfold CentreR at hz; rw [if_neg hb] at hz
  exact absurd hz (by simp)
theorem both_hold {p l t d l' t' d' : Int} (hp : IsP p) (hb : Bal p l t d) (hb' : Bal p l' t' d') (h1 : HoldsP p l t d l' t' d') : HoldsP p l' t' d' l t d ↔ l = l' ∧ t = t' ∧ d = d' := by
 constructor
 ·rintro ⟨h2, _⟩
  obtain ⟨h3, h4⟩ := h1
  obtain rfl : l = l' := by omega
  have := Bal.unique hp hb hb' (by
   have := Int.dvd_neg.2 h4
   rwa [show -(mk p t' d' - mk p t d) = mk p t d - mk p t' d' by omega] at this)
  exact ⟨rfl, this.1, this.2⟩
 ·rintro ⟨rfl, rfl, rfl⟩
  exact h1
theorem val_turn {p n d : Int} (hz : (ValR p n d).2 = 0) : (ValR p d n).2 = 0 ∧ (ValR p d n).1 = wrap64 (-(ValR p n d).1) := by
 by_cases hp : IsP p
 ·by_cases hr : (-100000000000000000 ≤ n ∧ n ≤ 100000000000000000) ∧ -100000000000000000 ≤ d ∧ d ≤ 100000000000000000
  ·by_cases h0 : n = 0 ∨ d = 0
   ·unfold ValR at hz; rw [if_pos hp, if_pos hr, if_pos h0] at hz
    exact absurd hz (by simp)
   ·have h0' : ¬ (d = 0 ∨ n = 0) := by omega
    have v1 := vl_le_62 hp (show n ≠ 0 by omega) (by omega) (by omega)
    have v2 := vl_le_62 hp (show d ≠ 0 by omega) (by omega) (by omega)
    unfold ValR
    rw [if_pos hp, if_pos hr, if_neg h0, if_pos hp, if_pos ⟨hr.2, hr.1⟩, if_neg h0']
    refine ⟨rfl, ?_⟩
    dsimp only
    rw [wrap_id (by omega) (by omega)]
    omega
  ·unfold ValR at hz; rw [if_pos hp, if_neg hr] at hz
   exact absurd hz (by simp)
 ·unfold ValR at hz; rw [if_neg hp] at hz
  exact absurd hz (by simp)
theorem FnBalls : laws_FnBalls.Pure := by
 intro l0 hl0 hl1 hbytes
 refine Ev.rounds (g := fun k => laws_FnBalls.f k l0) ?_
 unfold laws_FnBalls.f laws_big.f
 simp only [Option.bind_some]
 by_cases hbig : (l0.length : Int) > 4096
 ·simp only [decide_eq_true hbig, if_true]
  exact Ev.now _
 ·simp only [decide_eq_false hbig, if_neg Bool.false_ne_true]
  obtain ⟨h0, e0, s0⟩ := from_ev hbytes (by omega)
  have spoiled : ∃ p l t d c h, Ev (fun k => spec_l01Spoil.f k l0 0 h0) (p, l, t, d, c, h) ∧ Sm p ∧ SmB l t d ∧ Src l0 c := spoil_ev s0
  have hj8 : Ev (fun k => laws_FnBalls.j8 k l0) true := by
   obtain ⟨p, l, t, d, c1, h1, e1, hp, hw, s1⟩ := spoiled
   obtain ⟨n, m, c2, h2, e2, s2⟩ := parts_ev (h := h1) (p := p) s1 (show (1 : Int) ≤ 1000000 ∧ (1000000 : Int) ≤ 100000000000000000 by omega)
   obtain ⟨x3, c3, h3, e3, r3, s3⟩ := next_eq (h := h2) s2 (show (1 : Int) ≤ 2 by omega)
   unfold SmB Sm at hw
   have hdraw : ∃ n' m', Ev (fun k => spec_DrawHoldsFraction.f k l0) (p, l, t, d, n', m') := by
    have start : ∀ z, Ev (fun k => if x3 = 0 then ((spec_l01Is.f k p l t d).bind fun t596 => (if t596 = true then (if t < 1000000 then ((spec_l01Power.f k p d).bind fun t597 => (some (p, l, t, d, t, t597))) else (some (p, l, t, d, n, m))) else (some (p, l, t, d, n, m)))) else (some (p, l, t, d, n, m))) z → Ev (fun k => spec_DrawHoldsFraction.f k l0) z := by
     intro z hz
     unfold spec_DrawHoldsFraction.f
     rw [bnd e0, bnd e1, bnd e2]
     simp only [e3, Option.bind_some]
     exact hz
    by_cases hx : x3 = 0
    ·by_cases hb : IsP p ∧ Bal p l t d
     ·have hr := Bal.sm hb.1 hb.2
      by_cases ht : t < 1000000
      ·refine ⟨t, p ^ d.toNat, start _ ?_⟩
       simp only [if_pos hx]
       rw [bnd (l01Is_ev (by omega) (by omega))]
       simp only [decide_eq_true hb, if_true, if_pos ht]
       rw [bnd (l01Power_ev hb.1 (show d ≤ 22 by omega))]
       exact Ev.now _
      ·refine ⟨n, m, start _ ?_⟩
       simp only [if_pos hx]
       rw [bnd (l01Is_ev (by omega) (by omega))]
       simp only [decide_eq_true hb, if_true, if_neg ht]
       exact Ev.now _
     ·refine ⟨n, m, start _ ?_⟩
      simp only [if_pos hx]
      rw [bnd (l01Is_ev (by omega) (by omega))]
      simp only [decide_eq_false hb, if_neg Bool.false_ne_true]
      exact Ev.now _
    ·refine ⟨n, m, start _ ?_⟩
     simp only [if_neg hx]
     exact Ev.now _
   obtain ⟨n', m', hdraw⟩ := hdraw
   obtain ⟨q, b0, b1, b2, x0, x1, x2, f1, _, w1, w2⟩ := twoBalls_ev hbytes (by omega)
   have hdraw2 : Ev (fun k => spec_DrawHoldsBall.f k l0) (q, x0, x1, x2, b0, b1, b2) := by
    unfold spec_DrawHoldsBall.f
    rw [bnd f1]; exact Ev.now _
   unfold SmB Sm at w1 w2
   refine Ev.step (fun k => by rw [laws_FnBalls.j8]) ?_
   rw [bnd hdraw]
   dsimp only
   rw [bnd (implHoldsFraction_ev (by omega) (by omega)), bnd (specHoldsFraction_ev (by omega) (by omega)), bnd hdraw2]
   dsimp only
   rw [bnd (implHoldsBall_ev (by omega) (by omega) (by omega) (by omega)), bnd (specHoldsBall_ev (by omega) (by omega) (by omega) (by omega))]
   simp only [if_true, beq_self_eq_true]
   exact Ev.now _
  have hj6 : Ev (fun k => laws_FnBalls.j6 k l0) true := by
   obtain ⟨p, c1, h1, e1, r1, s1⟩ := pick_eq (h := h0) (xs := [2, 3, 5, 7, 7, 4]) s0 (by simp) (by simp)
   obtain ⟨n, m, c2, h2, e2, s2⟩ := parts_ev (h := h1) (p := p) s1 (show (1 : Int) ≤ 100000000000000000 ∧ (100000000000000000 : Int) ≤ 100000000000000000 by omega)
   have hdraw : Ev (fun k => spec_DrawValuationOf.f k l0) (p, n, m) := by
    unfold spec_DrawValuationOf.f
    rw [bnd e0]
    simp only [e1, Option.bind_some]
    rw [bnd e2]; exact Ev.now _
   refine Ev.step (fun k => by rw [laws_FnBalls.j6]) ?_
   rw [bnd hdraw]
   dsimp only
   rw [bnd implValuationOf_ev, bnd specValuationOf_ev]
   simp only [if_true, bne_self_eq_false]
   refine Ev.step (fun k => by rw [laws_FnBalls.j7]) ?_
   simp only [if_neg Bool.false_ne_true]
   by_cases hz : (ValR p n m).2 = 0
   ·obtain ⟨v1, v2⟩ := val_turn hz
    simp only [if_pos hz]
    rw [bnd implValuationOf_ev]
    simp only [v1, v2, if_true]
    exact hj8
   ·simp only [if_neg hz]
    exact hj8
  have hj4 : Ev (fun k => laws_FnBalls.j4 k l0) true := by
   obtain ⟨q, b0, b1, b2, x0, x1, x2, f1, _, w1, w2⟩ := twoBalls_ev hbytes (by omega)
   have hdraw : Ev (fun k => spec_DrawAreApart.f k l0) (q, b0, b1, b2, x0, x1, x2) := by
    unfold spec_DrawAreApart.f
    rw [bnd f1]; exact Ev.now _
   unfold SmB Sm at w1 w2
   refine Ev.step (fun k => by rw [laws_FnBalls.j4]) ?_
   rw [bnd hdraw]
   dsimp only
   rw [bnd (implAreApart_ev (by omega) (by omega) (by omega) (by omega)), bnd (specAreApart_ev (by omega) (by omega) (by omega) (by omega))]
   simp only [if_true, bne_self_eq_false]
   refine Ev.step (fun k => by rw [laws_FnBalls.j5]) ?_
   simp only [if_neg Bool.false_ne_true]
   by_cases hb : IsP q ∧ Bal q b0 b1 b2 ∧ Bal q x0 x1 x2
   ·obtain ⟨hp, hb1, hb2⟩ := hb
    have hA : ApartR q b0 b1 b2 x0 x1 x2 = (decide (¬ HoldsP q b0 b1 b2 x0 x1 x2 ∧ ¬ HoldsP q x0 x1 x2 b0 b1 b2), 0) := by unfold ApartR; rw [if_pos ⟨hp, hb1, hb2⟩]
    have hH1 : HoldsR q b0 b1 b2 x0 x1 x2 = (decide (HoldsP q b0 b1 b2 x0 x1 x2), 0) := by unfold HoldsR; rw [if_pos ⟨hp, hb1, hb2⟩]
    have hH2 : HoldsR q x0 x1 x2 b0 b1 b2 = (decide (HoldsP q x0 x1 x2 b0 b1 b2), 0) := by unfold HoldsR; rw [if_pos ⟨hp, hb2, hb1⟩]
    simp only [hA, if_true]
    rw [bnd (implHoldsBall_ev (by omega) (by omega) (by omega) (by omega)), bnd (implHoldsBall_ev (by omega) (by omega) (by omega) (by omega)), hH1, hH2]
    simp only [if_true]
    have heq : (b0 == x0 && (b1 == x1 && (b2 == x2))) = decide (b0 = x0 ∧ b1 = x1 ∧ b2 = x2) := by
     rw [Bool.eq_iff_iff]
     simp only [Bool.and_eq_true, beq_iff_eq, decide_eq_true_eq]
    rw [heq]
    by_cases h1 : HoldsP q b0 b1 b2 x0 x1 x2
    ·have hiff := both_hold hp hb1 hb2 h1
     have e1 : decide (¬ HoldsP q b0 b1 b2 x0 x1 x2 ∧ ¬ HoldsP q x0 x1 x2 b0 b1 b2) = false := decide_eq_false (fun z => z.1 h1)
     have e2 : decide (HoldsP q x0 x1 x2 b0 b1 b2) = decide (b0 = x0 ∧ b1 = x1 ∧ b2 = x2) := decide_eq_decide.2 hiff
     simp only [decide_eq_true h1, if_true, e1, e2, bne_self_eq_false, if_neg Bool.false_ne_true, show (false == true) = false from rfl]
     exact hj6
    ·have e2 : decide (b0 = x0 ∧ b1 = x1 ∧ b2 = x2) = false := by
      refine decide_eq_false ?_
      rintro ⟨rfl, rfl, rfl⟩
      exact h1 ⟨Int.le_refl _, by rw [Int.sub_self]; exact Int.dvd_zero _⟩
     have e3 : (decide (¬ HoldsP q b0 b1 b2 x0 x1 x2 ∧ ¬ HoldsP q x0 x1 x2 b0 b1 b2) == decide (HoldsP q x0 x1 x2 b0 b1 b2)) = false := by
      by_cases h2 : HoldsP q x0 x1 x2 b0 b1 b2
      ·rw [decide_eq_true h2, decide_eq_false (fun z => z.2 h2)]; rfl
      ·rw [decide_eq_false h2, decide_eq_true ⟨h1, h2⟩]; rfl
     simp only [decide_eq_false h1, if_neg Bool.false_ne_true, e3, e2, bne_self_eq_false]
     exact hj6
   ·have hA : ApartR q b0 b1 b2 x0 x1 x2 = (false, 1) := by unfold ApartR; rw [if_neg hb]
    simp only [hA, if_neg (show ¬ (1 : Int) = 0 by omega)]
    exact hj6
  have hj2 : Ev (fun k => laws_FnBalls.j2 k l0) true := by
   obtain ⟨p, l, t, d, c1, h1, e1, hp, hw, s1⟩ := spoiled
   have hdraw : Ev (fun k => spec_DrawCentreOf.f k l0) (p, l, t, d) := by
    unfold spec_DrawCentreOf.f
    rw [bnd e0, bnd e1]; exact Ev.now _
   unfold SmB Sm at hw
   have hIs : Ev (fun k => spec_IsBall.f k p l t d) (decide (IsP p ∧ Bal p l t d)) := by
    unfold spec_IsBall.f
    rw [bnd (l01Is_ev (by omega) (by omega))]; exact Ev.now _
   refine Ev.step (fun k => by rw [laws_FnBalls.j2]) ?_
   rw [bnd hdraw]
   dsimp only
   rw [bnd (implCentreOf_ev (by omega) (by omega)), bnd (specCentreOf_ev (by omega) (by omega))]
   simp only [if_true, beq_self_eq_true, Bool.not_true, Bool.or_self, if_neg Bool.false_ne_true]
   rw [bnd (IsBall_ev (by omega) (by omega)), bnd hIs]
   simp only [bne_self_eq_false]
   refine Ev.step (fun k => by rw [laws_FnBalls.j3]) ?_
   simp only [if_neg Bool.false_ne_true]
   by_cases hz : (CentreR p l t d).2.2 = 0
   ·obtain ⟨r, er, hr⟩ := ballOfEnd_impl p (CentreR p l t d).1 (CentreR p l t d).2.1 l
    have hback := centre_back hz hr
    simp only [if_pos hz]
    rw [bnd er, hback]
    simp only [if_true, beq_self_eq_true, Bool.not_true, Bool.or_self, if_neg Bool.false_ne_true]
    exact hj4
   ·simp only [if_neg hz]
    exact hj4
  obtain ⟨p, c1, h1, e1, r1, s1⟩ := pick_eq (h := h0) (xs := [2, 3, 5, 7, 2, 3, 5, 4]) s0 (by simp) (by simp)
  obtain ⟨mm, c2, h2, e2, r2, s2⟩ := pick_eq (h := h1) (xs := [100, 1000000, 100000000000000000]) s1 (by simp) (by simp)
  have hmm : 1 ≤ mm ∧ mm ≤ 100000000000000000 := by
   simp only [List.mem_cons, List.not_mem_nil, or_false] at r2; omega
  obtain ⟨n, m, c3, h3, e3, s3⟩ := parts_ev (h := h2) (p := p) s2 hmm
  obtain ⟨x4, c4, h4, e4, s4⟩ := near_eq (h := h3) s3
  obtain ⟨lv, c5, h5, e5, r5, s5⟩ := pick_eq (h := h4) (xs := [0, 1, 2, wrap64 (x4 - 6)]) s4 (by simp) (by simp)
  have hdraw : Ev (fun k => spec_DrawBallOf.f k l0) (p, n, m, lv) := by
   unfold spec_DrawBallOf.f
   rw [bnd e0]
   simp only [e1, e2, Option.bind_some]
   rw [bnd e3]
   simp only [e4, e5, Option.bind_some]
   exact Ev.now _
  rw [bnd hdraw]
  dsimp only
  obtain ⟨r, es, ei, hr⟩ := ballOf_both p n m lv
  rw [bnd ei, bnd es]
  simp only [if_true, beq_self_eq_true, Bool.not_true, Bool.or_self]
  have hj1f : Ev (fun k => laws_FnBalls.j1 k l0 p n m false r.1 r.2.1 r.2.2.1) true := by
   refine Ev.step (fun k => by rw [laws_FnBalls.j1]) ?_
   simp only [if_neg Bool.false_ne_true]
   exact hj2
  refine Ev.step (fun k => by rw [laws_FnBalls.j0]) ?_
  simp only [if_neg Bool.false_ne_true]
  by_cases hz : r.2.2.2 = 0
  ·simp only [if_pos hz]
   by_cases a1 : n ≥ -1000000
   ·simp only [if_pos a1]
    by_cases a2 : n ≤ 1000000
    ·simp only [if_pos a2]
     by_cases a3 : m ≥ -1000000
     ·simp only [if_pos a3]
      by_cases a4 : m ≤ 1000000
      ·simp only [decide_eq_true a4]
       obtain ⟨g1, g2, g3⟩ := made_holds hr hz ⟨a1, a2⟩ ⟨a3, a4⟩
       have hsm := Bal.sm g2 g3
       refine Ev.step (fun k => by rw [laws_FnBalls.j1]) ?_
       simp only [if_true]
       rw [bnd (implHoldsFraction_ev (by omega) (by omega)), g1]
       simp only [if_true]
       rw [bnd (IsBall_ev (by omega) (by omega))]
       simp only [decide_eq_true (show IsP p ∧ Bal p r.1 r.2.1 r.2.2.1 from ⟨g2, g3⟩), if_true]
       exact hj2
      ·simp only [decide_eq_false a4]
       exact hj1f
     ·simp only [if_neg a3]
      exact hj1f
    ·simp only [if_neg a2]
     exact hj1f
   ·simp only [if_neg a1]
    exact hj1f
  ·simp only [if_neg hz]
   exact hj1f

end Go.Proofs.Ytpmepopagapeiaa.Pure

/- Medians lie between each two of three balls, spheres have as many balls as are counted, heights add up, and all of them are the reference's: for every draw. No condition. -/
import Derived.Test.YtpmepopagapeiaaPFnMediansx21
import Derived.Test.YtpmepopagapeiaaMathFnMedians
namespace Go.Proofs.Ytpmepopagapeiaa.Pure
open Go.RowKit Go.Proofs.Ytpmepopagapeiaa.PFnMedians Go.Proofs.YtpmepopagapeiaaW.PrintWords Go.Proofs.YtpmepopagapeiaaW.PrintLast Go.Proofs.YtpmepopagapeiaaW.PrintMore Go.Proofs.Ytpmepopagapeiaa.Math
set_option linter.unusedVariables false
set_option linter.unusedSimpArgs false
theorem isPrime_eq (p : Int) : impl_isPrime.f p = some (decide (IsP p)) := by
 unfold impl_isPrime.f IsP
 by_cases h2 : p = 2
 ·subst h2; rfl
 by_cases h3 : p = 3
 ·subst h3; rfl
 by_cases h5 : p = 5
 ·subst h5; rfl
 by_cases h7 : p = 7
 ·subst h7; rfl
 simp [h2, h3, h5, h7]
theorem l01Prime_eq (p : Int) : spec_l01Prime.f p = some (decide (IsP p)) := by
 unfold spec_l01Prime.f IsP
 by_cases h2 : p = 2
 ·subst h2; rfl
 by_cases h3 : p = 3
 ·subst h3; rfl
 by_cases h5 : p = 5
 ·subst h5; rfl
 by_cases h7 : p = 7
 ·subst h7; rfl
 simp [h2, h3, h5, h7]
theorem l01In_eq (n a b : Int) : spec_l01In.f n a b = some (decide (a ≤ n ∧ n ≤ b)) := by
 unfold spec_l01In.f
 by_cases h : n ≥ a
 ·rw [if_pos h]; simp [h]
 ·rw [if_neg h]; simp; omega
theorem isLevel_eq (n : Int) : impl_isLevel.f n = some (decide (-6 ≤ n ∧ n ≤ 6)) := by
 unfold impl_isLevel.f
 by_cases h : n ≥ (-6)
 ·rw [if_pos h]; simp [h]
 ·rw [if_neg h]; simp; omega
theorem power_l {p : Int} (h : IsP p) (n : Nat) (hn : p ^ n ≤ 9223372036854775807) (hn' : n ≤ 1000) : ∀ d i, i + d = n → Ev (fun k => impl_power.l0 k p (p ^ i) n i) (p ^ n) := by
 intro d
 induction d with
 | zero =>
  intro i hi
  obtain rfl : i = n := by omega
  refine Ev.step (fun k => by rw [impl_power.l0]) ?_
  simp only [if_neg (Int.lt_irrefl _)]
  exact Ev.now _
 | succ d ih =>
  intro i hi
  refine Ev.step (fun k => by rw [impl_power.l0]) ?_
  have h1 : (i : Int) < n := by omega
  have h2 := pow_pos' h (i + 1)
  have h3 := pow_mono h (m := i + 1) (n := n) (by omega)
  have e1 : wrap64 (p ^ i * p) = p ^ (i + 1) := by rw [← show p ^ (i + 1) = p ^ i * p from Int.pow_succ p i]; exact wrap_id (by omega) (by omega)
  have e2 : wrap64 ((i : Int) + 1) = ((i + 1 : Nat) : Int) := by rw [wrap_id (by omega) (by omega)]; omega
  simp only [if_pos h1, e1, e2]
  exact ih (i + 1) (by omega)
theorem power_big {p : Int} (h : IsP p) {n : Nat} (hn : p ^ n ≤ 9223372036854775807) (hn' : n ≤ 1000) : Ev (fun k => impl_power.f k p n) (p ^ n) := by
 unfold impl_power.f
 have := power_l h n hn hn' n 0 (by omega)
 rw [Int.pow_zero] at this
 exact this
theorem power_ev {p : Int} (h : IsP p) {n : Int} (hn : n ≤ 22) : Ev (fun k => impl_power.f k p n) (p ^ n.toNat) := by
 by_cases h0 : 0 ≤ n
 ·have := power_big h (n := n.toNat) (by have := pow_le_22 h (n := n.toNat) (by omega); omega) (by omega)
  rw [Int.toNat_of_nonneg h0] at this
  exact this
 ·unfold impl_power.f
  refine Ev.step (fun k => by rw [impl_power.l0]) ?_
  have e : n.toNat = 0 := by omega
  simp only [if_neg (show ¬ (0 : Int) < n by omega), e, Int.pow_zero]
  exact Ev.now _
theorem l01Power_l {p : Int} (h : IsP p) : ∀ (d : Nat) (i : Nat), p ^ (i + d) ≤ 9223372036854775807 → i + d ≤ 1000 → Ev (fun k => spec_l01Power.l0 k p d (p ^ i)) (p ^ (i + d)) := by
 intro d
 induction d with
 | zero =>
  intro i _ _
  refine Ev.step (fun k => by rw [spec_l01Power.l0]) ?_
  simp only [if_neg (show ¬ ((0 : Nat) : Int) > 0 by omega)]
  exact Ev.now _
 | succ d ih =>
  intro i hi hi'
  refine Ev.step (fun k => by rw [spec_l01Power.l0]) ?_
  have h2 := pow_pos' h (i + 1)
  have h3 := pow_mono h (m := i + 1) (n := i + (d + 1)) (by omega)
  have e1 : wrap64 (p ^ i * p) = p ^ (i + 1) := by rw [← show p ^ (i + 1) = p ^ i * p from Int.pow_succ p i]; exact wrap_id (by omega) (by omega)
  have e2 : wrap64 (((d + 1 : Nat) : Int) - 1) = (d : Int) := by rw [wrap_id (by omega) (by omega)]; omega
  simp only [if_pos (show ((d + 1 : Nat) : Int) > 0 by omega), e1, e2]
  have e3 : i + (d + 1) = i + 1 + d := by omega
  rw [e3] at hi ⊢
  exact ih (i + 1) hi (by omega)
theorem l01Power_big {p : Int} (h : IsP p) {n : Nat} (hn : p ^ n ≤ 9223372036854775807) (hn' : n ≤ 1000) : Ev (fun k => spec_l01Power.f k p n) (p ^ n) := by
 unfold spec_l01Power.f
 have := l01Power_l h n 0 (by rw [Nat.zero_add]; exact hn) (by omega)
 rw [Int.pow_zero, Nat.zero_add] at this
 exact this
theorem l01Power_ev {p : Int} (h : IsP p) {n : Int} (hn : n ≤ 22) : Ev (fun k => spec_l01Power.f k p n) (p ^ n.toNat) := by
 by_cases h0 : 0 ≤ n
 ·have := l01Power_big h (n := n.toNat) (by have := pow_le_22 h (n := n.toNat) (by omega); omega) (by omega)
  rw [Int.toNat_of_nonneg h0] at this
  exact this
 ·unfold spec_l01Power.f
  refine Ev.step (fun k => by rw [spec_l01Power.l0]) ?_
  have e : n.toNat = 0 := by omega
  simp only [if_neg (show ¬ n > 0 by omega), e, Int.pow_zero]
  exact Ev.now _
theorem l01Power_any {p x : Int} (h : IsP p) (hx : x ≠ 0) (h0 : -9223372036854775807 ≤ x) (h1 : x ≤ 9223372036854775807) : Ev (fun k => spec_l01Power.f k p (vl p x)) (p ^ vl p x) :=
 l01Power_big h (by have := pow_vl_le h hx; omega) (by have := vl_le_62 h hx h0 h1; omega)
theorem valuation_l {p : Int} (h : IsP p) : ∀ (v : Nat) (u : Int) (n : Int), ¬ p ∣ u → -9223372036854775807 ≤ p ^ v * u → p ^ v * u ≤ 9223372036854775807 → 0 ≤ n → n + v ≤ 1000 → Ev (fun k => impl_valuation.l0 k p (p ^ v * u) n) (n + v) := by
 intro v
 induction v with
 | zero =>
  intro u n hu h0 h1 hn hv
  refine Ev.step (fun k => by rw [impl_valuation.l0]) ?_
  have hne : ¬ Int.tmod (p ^ 0 * u) p = 0 := fun e => by
   rw [tmod_zero_iff, Int.pow_zero, Int.one_mul] at e; exact hu e
  simp only [if_neg h.ne, if_neg hne]
  exact ev_some (by simp)
 | succ v ih =>
  intro u n hu h0 h1 hn hv
  refine Ev.step (fun k => by rw [impl_valuation.l0]) ?_
  have e0 : p ^ (v + 1) * u = p * (p ^ v * u) := by rw [Int.pow_succ, Int.mul_comm (p ^ v) p, Int.mul_assoc]
  have hd : Int.tmod (p ^ (v + 1) * u) p = 0 := by rw [tmod_zero_iff, e0]; exact Int.dvd_mul_right _ _
  have e1 : Int.tdiv (p ^ (v + 1) * u) p = p ^ v * u := by rw [e0]; exact tdiv_mul_left h.ne
  have hb := tdiv_bounds (n := p ^ (v + 1) * u) (m := p)
  rw [e1] at hb
  have e2 : wrap64 (p ^ v * u) = p ^ v * u := wrap_id (by omega) (by omega)
  have e3 : wrap64 (n + 1) = n + 1 := wrap_id (by omega) (by omega)
  simp only [if_neg h.ne, if_pos hd, e1, e2, e3]
  exact ev_eq (ih u (n + 1) hu (by omega) (by omega) (by omega) (by omega)) (by omega)
theorem valuation_ev {p : Int} (h : IsP p) {x : Int} (hx : x ≠ 0) (h0 : -9223372036854775807 ≤ x) (h1 : x ≤ 9223372036854775807) : Ev (fun k => impl_valuation.f k p x) (vl p x) := by
 unfold impl_valuation.f
 simp only [if_neg hx]
 obtain ⟨u, hu, hnd, _⟩ := vl_split h x hx
 have hv := vl_le_62 h hx h0 h1
 have := valuation_l h (vl p x) u 0 hnd (by omega) (by omega) (by omega) (by omega)
 rw [← hu, Int.zero_add] at this
 exact this
theorem valuation_zero (k : Nat) (p : Int) : impl_valuation.f k p 0 = some 1000 := by unfold impl_valuation.f; rw [if_pos rfl]
theorem valuation_zero_ev (p : Int) : Ev (fun k => impl_valuation.f k p 0) 1000 := ⟨0, fun k _ => valuation_zero k p⟩
def vx (p x : Int) : Int := if x = 0 then 1000 else vl p x
theorem valuation_any {p : Int} (h : IsP p) {x : Int} (h0 : -9223372036854775807 ≤ x) (h1 : x ≤ 9223372036854775807) : Ev (fun k => impl_valuation.f k p x) (vx p x) := by
 unfold vx
 by_cases hx : x = 0
 ·subst hx; rw [if_pos rfl]; exact valuation_zero_ev p
 ·rw [if_neg hx]; exact valuation_ev h hx h0 h1
theorem l01Val_l {p : Int} (h : IsP p) : ∀ (v : Nat) (u : Int) (n : Int), ¬ p ∣ u → -9223372036854775807 ≤ p ^ v * u → p ^ v * u ≤ 9223372036854775807 → 0 ≤ n → n + v ≤ 1000 → Ev (fun k => spec_l01Val.l0 k p (p ^ v * u) n) (n + v) := by
 intro v
 induction v with
 | zero =>
  intro u n hu h0 h1 hn hv
  refine Ev.step (fun k => by rw [spec_l01Val.l0]) ?_
  have hne : ¬ Int.tmod (p ^ 0 * u) p = 0 := fun e => by
   rw [tmod_zero_iff, Int.pow_zero, Int.one_mul] at e; exact hu e
  simp only [if_neg h.ne, if_neg hne]
  exact ev_some (by simp)
 | succ v ih =>
  intro u n hu h0 h1 hn hv
  refine Ev.step (fun k => by rw [spec_l01Val.l0]) ?_
  have e0 : p ^ (v + 1) * u = p * (p ^ v * u) := by rw [Int.pow_succ, Int.mul_comm (p ^ v) p, Int.mul_assoc]
  have hd : Int.tmod (p ^ (v + 1) * u) p = 0 := by rw [tmod_zero_iff, e0]; exact Int.dvd_mul_right _ _
  have e1 : Int.tdiv (p ^ (v + 1) * u) p = p ^ v * u := by rw [e0]; exact tdiv_mul_left h.ne
  have hb := tdiv_bounds (n := p ^ (v + 1) * u) (m := p)
  rw [e1] at hb
  have e2 : wrap64 (p ^ v * u) = p ^ v * u := wrap_id (by omega) (by omega)
  have e3 : wrap64 (n + 1) = n + 1 := wrap_id (by omega) (by omega)
  simp only [if_neg h.ne, if_pos hd, e1, e2, e3]
  exact ev_eq (ih u (n + 1) hu (by omega) (by omega) (by omega) (by omega)) (by omega)
theorem l01Val_ev {p : Int} (h : IsP p) {x : Int} (hx : x ≠ 0) (h0 : -9223372036854775807 ≤ x) (h1 : x ≤ 9223372036854775807) : Ev (fun k => spec_l01Val.f k p x) (vl p x) := by
 unfold spec_l01Val.f
 obtain ⟨u, hu, hnd, _⟩ := vl_split h x hx
 have hv := vl_le_62 h hx h0 h1
 have := l01Val_l h (vl p x) u 0 hnd (by omega) (by omega) (by omega) (by omega)
 rw [← hu, Int.zero_add] at this
 exact this
theorem mod_ev {n m : Int} (hm : 0 < m) (hm' : m ≤ 4611686018427387904) : impl_mod.f n m = some (n % m) := by
 unfold impl_mod.f
 have hb := mod_between (n := n) hm
 rw [if_neg (show ¬ m = 0 by omega), wrap_id (by omega) (by omega), mod_eq hm]
theorem IsBall_ev {p l t d : Int} (hl : -9223372036854775808 ≤ l ∧ l ≤ 9223372036854775807) (hd : -9223372036854775808 ≤ d ∧ d ≤ 9223372036854775807) :
  Ev (fun k => impl_IsBall.f k p l t d) (decide (IsP p ∧ Bal p l t d)) := by
 unfold impl_IsBall.f
 simp only [isPrime_eq, isLevel_eq, Option.bind_some]
 have bad : ∀ {c : Prop} [Decidable c], ¬ c → Ev (fun k => impl_IsBall.j0 k p true l t d) (decide c) := by
  intro c _ hc
  refine Ev.step (fun k => by rw [impl_IsBall.j0]) ?_
  simp only [if_true]
  exact ev_some (by simp [hc])
 by_cases hp : IsP p
 ·simp only [hp, decide_true, if_true]
  by_cases h1 : -6 ≤ l ∧ l ≤ 6
  ·simp only [h1, decide_true, if_true, and_self]
   by_cases h2 : d < 0
   ·simp only [if_pos h2]
    exact bad (by unfold Bal; omega)
   ·simp only [if_neg h2]
    by_cases h3 : d > 6
    ·simp only [h3, decide_true]
     exact bad (by unfold Bal; omega)
    ·simp only [h3, decide_false]
     refine Ev.step (fun k => by rw [impl_IsBall.j0]) ?_
     have e : wrap64 (l + d) = l + d := wrap_id (by omega) (by omega)
     simp only [if_neg Bool.false_ne_true, e]
     by_cases h4 : l + d ≤ 0
     ·simp only [if_pos h4]
      by_cases h5 : t = 0
      ·simp only [if_pos h5]
       exact ev_dec (by rw [Bal_low h4]; simp [hp, h5]; omega)
      ·simp only [if_neg h5]
       exact ev_dec (by rw [Bal_low h4]; simp [h5])
     ·simp only [if_neg h4]
      have hpw := pow_pos' hp (l + d).toNat
      by_cases h5 : t ≥ 0
      ·simp only [if_pos h5]
       rw [bnd (power_ev hp (by omega))]
       by_cases h6 : t < p ^ (l + d).toNat
       ·simp only [if_pos h6]
        by_cases h7 : d = 0
        ·simp only [if_pos h7]
         exact ev_dec (by rw [Bal_high h4]; simp [hp, h7] at h6 ⊢; omega)
        ·simp only [if_neg h7, if_neg hp.ne]
         refine ev_dec ?_
         rw [Bal_high h4]
         by_cases h8 : p ∣ t <;> simp [hp, h7, tmod_zero_iff, h8] <;> omega
       ·simp only [if_neg h6]
        exact ev_dec (by rw [Bal_high h4]; simp [hp]; omega)
      ·simp only [if_neg h5]
       exact ev_dec (by rw [Bal_high h4]; simp [hp]; omega)
  ·simp only [h1, decide_false, if_neg Bool.false_ne_true]
   exact bad (by unfold Bal; omega)
 ·simp only [hp, decide_false, if_neg Bool.false_ne_true]
  exact bad (by simp)
theorem l01Is_ev {p l t d : Int} (hl : -9223372036854775808 ≤ l ∧ l ≤ 9223372036854775807) (hd : -9223372036854775808 ≤ d ∧ d ≤ 9223372036854775807) :
  Ev (fun k => spec_l01Is.f k p l t d) (decide (IsP p ∧ Bal p l t d)) := by
 unfold spec_l01Is.f
 simp only [l01Prime_eq, l01In_eq, Option.bind_some]
 have bad : ∀ {c : Prop} [Decidable c], ¬ c → Ev (fun k => spec_l01Is.j0 k p true l t d) (decide c) := by
  intro c _ hc
  refine Ev.step (fun k => by rw [spec_l01Is.j0]) ?_
  simp only [if_true]
  exact ev_some (by simp [hc])
 by_cases hp : IsP p
 ·simp only [hp, decide_true, if_true]
  by_cases h1 : -6 ≤ l ∧ l ≤ 6
  ·simp only [h1, decide_true, if_true, and_self]
   by_cases h2 : 0 ≤ d ∧ d ≤ 6
   ·simp only [h2, decide_true, and_self, Bool.not_true]
    refine Ev.step (fun k => by rw [spec_l01Is.j0]) ?_
    have e : wrap64 (l + d) = l + d := wrap_id (by omega) (by omega)
    simp only [if_neg Bool.false_ne_true, e]
    by_cases h4 : l + d ≤ 0
    ·simp only [if_pos h4]
     by_cases h5 : t = 0
     ·simp only [if_pos h5]
      exact ev_dec (by rw [Bal_low h4]; simp [hp, h5]; omega)
     ·simp only [if_neg h5]
      exact ev_dec (by rw [Bal_low h4]; simp [h5])
    ·simp only [if_neg h4]
     have hpw := pow_pos' hp (l + d).toNat
     have hpw2 := pow_le_22 hp (n := (l + d).toNat) (by omega)
     rw [bnd (l01Power_ev hp (by omega))]
     have e2 : wrap64 (p ^ (l + d).toNat - 1) = p ^ (l + d).toNat - 1 := wrap_id (by omega) (by omega)
     simp only [l01In_eq, Option.bind_some, e2]
     by_cases h6 : 0 ≤ t ∧ t ≤ p ^ (l + d).toNat - 1
     ·simp only [h6, decide_true, if_true, and_self]
      by_cases h7 : d = 0
      ·simp only [if_pos h7]
       exact ev_dec (by rw [Bal_high h4]; simp [hp, h7] at h6 ⊢; omega)
      ·simp only [if_neg h7, if_neg hp.ne]
       refine ev_dec ?_
       rw [Bal_high h4]
       by_cases h8 : p ∣ t <;> simp [hp, h7, tmod_zero_iff, h8] <;> omega
     ·simp only [h6, decide_false, if_neg Bool.false_ne_true]
      exact ev_dec (by rw [Bal_high h4]; simp [hp]; omega)
   ·simp only [h2, decide_false, Bool.not_false]
    exact bad (by unfold Bal; omega)
  ·simp only [h1, decide_false, if_neg Bool.false_ne_true]
   exact bad (by unfold Bal; omega)
 ·simp only [hp, decide_false, if_neg Bool.false_ne_true]
  exact bad (by simp)
def BallOk (p : Int) (b : S27) : Prop := Bal p b.f0 b.f1 b.f2
instance (p : Int) (b : S27) : Decidable (BallOk p b) := by unfold BallOk; infer_instance
def BallWf (b : S27) : Prop := (-9223372036854775808 ≤ b.f0 ∧ b.f0 ≤ 9223372036854775807) ∧ (-9223372036854775808 ≤ b.f2 ∧ b.f2 ≤ 9223372036854775807)
theorem rd_ball_at (pre : List S27) (b : S27) (ys : List S27) : rd_T27 (pre ++ b :: ys) (pre.length : Int) = b := by
 unfold rd_T27
 simp [List.getD_eq_getElem?_getD]
theorem l01Code_l {p : Int} (hp : IsP p) : ∀ (ys pre : List S27), (pre ++ ys).length ≤ 1000 → (∀ b ∈ ys, BallWf b) → Ev (fun k => spec_l01Code.l0 k p (pre ++ ys) pre.length) (if ∀ b ∈ ys, BallOk p b then 0 else 1) := by
 intro ys
 induction ys with
 | nil =>
  intro pre _ _
  refine Ev.step (fun k => by rw [spec_l01Code.l0]) ?_
  simp only [List.append_nil, if_neg (Int.lt_irrefl _)]
  exact ev_some (by simp)
 | cons b ys ih =>
  intro pre hl hw
  refine Ev.step (fun k => by rw [spec_l01Code.l0]) ?_
  have hl' : (pre ++ b :: ys).length = pre.length + (ys.length + 1) := by simp
  have h1 : (pre.length : Int) < ((pre ++ b :: ys).length : Int) := by omega
  simp only [if_pos h1, if_pos (show (0 : Int) ≤ (pre.length : Int) by omega), rd_ball_at]
  have hb := hw b (by simp)
  rw [bnd (l01Is_ev hb.1 hb.2)]
  by_cases hB : Bal p b.f0 b.f1 b.f2
  ·simp only [hp, hB, and_self, decide_true, if_true]
   have e : wrap64 ((pre.length : Int) + 1) = ((pre ++ [b]).length : Int) := by rw [wrap_id (by omega) (by omega)]; simp
   have := ih (pre ++ [b]) (by simpa using hl) (fun c hc => hw c (by simp [hc]))
   rw [e]
   simp only [List.append_assoc, List.singleton_append] at this
   refine ev_eq this ?_
   have : (∀ c ∈ b :: ys, BallOk p c) ↔ (∀ c ∈ ys, BallOk p c) := by simp [BallOk, hB]
   simp only [this]
  ·simp only [hp, hB, and_false, decide_false, if_neg Bool.false_ne_true]
   refine ev_some ?_
   rw [if_neg]
   intro hall
   exact hB (hall b (by simp))
theorem l01Code_ev {p : Int} {ys : List S27} (hl : ys.length ≤ 1000) (hw : ∀ b ∈ ys, BallWf b) : Ev (fun k => spec_l01Code.f k p ys) (if IsP p ∧ ∀ b ∈ ys, BallOk p b then 0 else 1) := by
 unfold spec_l01Code.f
 simp only [l01Prime_eq, Option.bind_some]
 by_cases hp : IsP p
 ·simp only [hp, decide_true, if_true, true_and]
  exact l01Code_l hp ys [] (by simpa using hl) hw
 ·simp only [hp, decide_false, if_neg Bool.false_ne_true, false_and, if_false]
  exact Ev.now _
theorem l01Code1 {p l t d : Int} (hl : -9223372036854775808 ≤ l ∧ l ≤ 9223372036854775807) (hd : -9223372036854775808 ≤ d ∧ d ≤ 9223372036854775807) :
  Ev (fun k => spec_l01Code.f k p [⟨l, t, d⟩]) (if IsP p ∧ Bal p l t d then 0 else 1) := by
 refine ev_eq (l01Code_ev (by simp) (by intro b hb; simp at hb; subst hb; exact ⟨hl, hd⟩)) ?_
 simp [BallOk]
theorem l01Code2 {p l t d l' t' d' : Int} (hl : -9223372036854775808 ≤ l ∧ l ≤ 9223372036854775807) (hd : -9223372036854775808 ≤ d ∧ d ≤ 9223372036854775807)
  (hl' : -9223372036854775808 ≤ l' ∧ l' ≤ 9223372036854775807) (hd' : -9223372036854775808 ≤ d' ∧ d' ≤ 9223372036854775807) :
  Ev (fun k => spec_l01Code.f k p [⟨l, t, d⟩, ⟨l', t', d'⟩]) (if IsP p ∧ Bal p l t d ∧ Bal p l' t' d' then 0 else 1) := by
 refine ev_eq (l01Code_ev (by simp) (by intro b hb; simp at hb; rcases hb with rfl | rfl; exact ⟨hl, hd⟩; exact ⟨hl', hd'⟩)) ?_
 simp [BallOk]
theorem l01Code3 {p l t d l' t' d' l2 t2 d2 : Int} (hl : -9223372036854775808 ≤ l ∧ l ≤ 9223372036854775807) (hd : -9223372036854775808 ≤ d ∧ d ≤ 9223372036854775807)
  (hl' : -9223372036854775808 ≤ l' ∧ l' ≤ 9223372036854775807) (hd' : -9223372036854775808 ≤ d' ∧ d' ≤ 9223372036854775807)
  (hl2 : -9223372036854775808 ≤ l2 ∧ l2 ≤ 9223372036854775807) (hd2 : -9223372036854775808 ≤ d2 ∧ d2 ≤ 9223372036854775807) :
  Ev (fun k => spec_l01Code.f k p [⟨l, t, d⟩, ⟨l', t', d'⟩, ⟨l2, t2, d2⟩]) (if IsP p ∧ Bal p l t d ∧ Bal p l' t' d' ∧ Bal p l2 t2 d2 then 0 else 1) := by
 refine ev_eq (l01Code_ev (by simp) (by intro b hb; simp at hb; rcases hb with rfl | rfl | rfl; exact ⟨hl, hd⟩; exact ⟨hl', hd'⟩; exact ⟨hl2, hd2⟩)) ?_
 simp [BallOk]
theorem areBalls_l {p : Int} (hp : IsP p) : ∀ (ys pre : List S27), (pre ++ ys).length ≤ 1000 → (∀ b ∈ ys, BallWf b) → Ev (fun k => impl_areBalls.l0 k p (pre ++ ys) ((pre ++ ys).length : Int) pre.length) (decide (∀ b ∈ ys, BallOk p b)) := by
 intro ys
 induction ys with
 | nil =>
  intro pre _ _
  refine Ev.step (fun k => by rw [impl_areBalls.l0]) ?_
  simp only [List.append_nil, if_neg (Int.lt_irrefl _)]
  simp only [isPrime_eq, Option.bind_some, hp]
  exact ev_some (by simp)
 | cons b ys ih =>
  intro pre hl hw
  refine Ev.step (fun k => by rw [impl_areBalls.l0]) ?_
  have hl' : (pre ++ b :: ys).length = pre.length + (ys.length + 1) := by simp
  have h1 : (pre.length : Int) < ((pre ++ b :: ys).length : Int) := by omega
  simp only [if_pos h1, if_pos (show (0 : Int) ≤ (pre.length : Int) by omega), rd_ball_at]
  have hb := hw b (by simp)
  rw [bnd (IsBall_ev hb.1 hb.2)]
  by_cases hB : Bal p b.f0 b.f1 b.f2
  ·simp only [hp, hB, and_self, decide_true, if_true]
   have e : wrap64 ((pre.length : Int) + 1) = ((pre ++ [b]).length : Int) := by rw [wrap_id (by omega) (by omega)]; simp
   have := ih (pre ++ [b]) (by simpa using hl) (fun c hc => hw c (by simp [hc]))
   rw [e]
   simp only [List.append_assoc, List.singleton_append] at this
   refine ev_eq this ?_
   have : (∀ c ∈ b :: ys, BallOk p c) ↔ (∀ c ∈ ys, BallOk p c) := by simp [BallOk, hB]
   simp only [this]
  ·simp only [hp, hB, and_false, decide_false, if_neg Bool.false_ne_true]
   refine ev_some ?_
   symm
   rw [decide_eq_false_iff_not]
   intro hall
   exact hB (hall b (by simp))
theorem areBalls_no {p : Int} (hp : ¬ IsP p) : ∀ (ys : List S27), ys.length ≤ 1000 → (∀ b ∈ ys, BallWf b) → Ev (fun k => impl_areBalls.f k p ys) false := by
 intro ys hl hw
 unfold impl_areBalls.f
 refine Ev.step (fun k => by rw [impl_areBalls.l0]) ?_
 cases ys with
 | nil =>
  simp only [List.length_nil, if_neg (show ¬ (0 : Int) < ((0 : Nat) : Int) by omega)]
  simp only [isPrime_eq, Option.bind_some, hp]
  exact ev_some (by simp)
 | cons b ys =>
  have h1 : (0 : Int) < ((b :: ys).length : Int) := by rw [List.length_cons]; omega
  have h2 := rd_ball_at [] b ys
  simp only [List.nil_append, List.length_nil] at h2
  simp only [if_pos h1, if_pos (Int.le_refl 0)]
  have hb := hw b (by simp)
  have h3 : rd_T27 (b :: ys) 0 = b := h2
  rw [h3, bnd (IsBall_ev hb.1 hb.2)]
  simp only [hp, false_and, decide_false, if_neg Bool.false_ne_true]
  exact Ev.now _
theorem areBalls_ev {p : Int} {ys : List S27} (hl : ys.length ≤ 1000) (hw : ∀ b ∈ ys, BallWf b) : Ev (fun k => impl_areBalls.f k p ys) (decide (IsP p ∧ ∀ b ∈ ys, BallOk p b)) := by
 by_cases hp : IsP p
 ·unfold impl_areBalls.f
  refine ev_eq (areBalls_l hp ys [] (by simpa using hl) hw) (by simp [hp])
 ·refine ev_eq (areBalls_no hp ys hl hw) (by simp [hp])
theorem areBalls2 {p l t d l' t' d' : Int} (hl : -9223372036854775808 ≤ l ∧ l ≤ 9223372036854775807) (hd : -9223372036854775808 ≤ d ∧ d ≤ 9223372036854775807)
  (hl' : -9223372036854775808 ≤ l' ∧ l' ≤ 9223372036854775807) (hd' : -9223372036854775808 ≤ d' ∧ d' ≤ 9223372036854775807) :
  Ev (fun k => impl_areBalls.f k p [⟨l, t, d⟩, ⟨l', t', d'⟩]) (decide (IsP p ∧ Bal p l t d ∧ Bal p l' t' d')) := by
 refine ev_eq (areBalls_ev (by simp) (by intro b hb; simp at hb; rcases hb with rfl | rfl; exact ⟨hl, hd⟩; exact ⟨hl', hd'⟩)) ?_
 simp [BallOk]
theorem areBalls3 {p l t d l' t' d' l2 t2 d2 : Int} (hl : -9223372036854775808 ≤ l ∧ l ≤ 9223372036854775807) (hd : -9223372036854775808 ≤ d ∧ d ≤ 9223372036854775807)
  (hl' : -9223372036854775808 ≤ l' ∧ l' ≤ 9223372036854775807) (hd' : -9223372036854775808 ≤ d' ∧ d' ≤ 9223372036854775807)
  (hl2 : -9223372036854775808 ≤ l2 ∧ l2 ≤ 9223372036854775807) (hd2 : -9223372036854775808 ≤ d2 ∧ d2 ≤ 9223372036854775807) :
  Ev (fun k => impl_areBalls.f k p [⟨l, t, d⟩, ⟨l', t', d'⟩, ⟨l2, t2, d2⟩]) (decide (IsP p ∧ Bal p l t d ∧ Bal p l' t' d' ∧ Bal p l2 t2 d2)) := by
 refine ev_eq (areBalls_ev (by simp) (by intro b hb; simp at hb; rcases hb with rfl | rfl | rfl; exact ⟨hl, hd⟩; exact ⟨hl', hd'⟩; exact ⟨hl2, hd2⟩)) ?_
 simp [BallOk]
theorem rd_at (pre : List Int) (b : Int) (ys : List Int) : rd (pre ++ b :: ys) (pre.length : Int) = b := by
 unfold rd
 simp [List.getD_eq_getElem?_getD]
theorem within_l {m : Int} (h0 : 0 ≤ m) (h1 : m ≤ 9223372036854775807) : ∀ (ys pre : List Int), (pre ++ ys).length ≤ 1000 → Ev (fun k => impl_within.l0 k m (pre ++ ys) ((pre ++ ys).length : Int) pre.length) (decide (∀ b ∈ ys, -m ≤ b ∧ b ≤ m)) := by
 intro ys
 induction ys with
 | nil =>
  intro pre _
  refine Ev.step (fun k => by rw [impl_within.l0]) ?_
  simp only [List.append_nil, if_neg (Int.lt_irrefl _)]
  exact ev_some (by simp)
 | cons b ys ih =>
  intro pre hl
  refine Ev.step (fun k => by rw [impl_within.l0]) ?_
  have hl' : (pre ++ b :: ys).length = pre.length + (ys.length + 1) := by simp
  have hlt : (pre.length : Int) < ((pre ++ b :: ys).length : Int) := by omega
  have em : wrap64 (-m) = -m := wrap_id (by omega) (by omega)
  simp only [if_pos hlt, if_pos (show (0 : Int) ≤ (pre.length : Int) by omega), rd_at, em]
  by_cases h2 : b < -m
  ·simp only [if_pos h2]
   refine ev_some ?_
   symm
   rw [decide_eq_false_iff_not]
   intro hall
   have := hall b (by simp)
   omega
  ·simp only [if_neg h2]
   by_cases h3 : b > m
   ·simp only [if_pos h3]
    refine ev_some ?_
    symm
    rw [decide_eq_false_iff_not]
    intro hall
    have := hall b (by simp)
    omega
   ·simp only [if_neg h3]
    have e : wrap64 ((pre.length : Int) + 1) = ((pre ++ [b]).length : Int) := by rw [wrap_id (by omega) (by omega)]; simp
    have := ih (pre ++ [b]) (by simpa using hl)
    rw [e]
    simp only [List.append_assoc, List.singleton_append] at this
    refine ev_eq this ?_
    have : (∀ c ∈ b :: ys, -m ≤ c ∧ c ≤ m) ↔ (∀ c ∈ ys, -m ≤ c ∧ c ≤ m) := by simp; omega
    simp only [this]
theorem within2 {m a b : Int} (h0 : 0 ≤ m) (h1 : m ≤ 9223372036854775807) : Ev (fun k => impl_within.f k m [a, b]) (decide ((-m ≤ a ∧ a ≤ m) ∧ -m ≤ b ∧ b ≤ m)) := by
 unfold impl_within.f
 refine ev_eq (within_l h0 h1 _ [] (by simp)) ?_
 simp
theorem gcd_l : ∀ (n : Nat) (a b : Int), b.natAbs ≤ n → a.natAbs ≤ 9223372036854775807 → b.natAbs ≤ 9223372036854775807 → Ev (fun k => impl_gcd.l0 k a b) (Int.gcd a b : Int) := by
 intro n
 induction n with
 | zero =>
  intro a b hb h0 h1
  obtain rfl : b = 0 := by omega
  refine Ev.step (fun k => by rw [impl_gcd.l0]) ?_
  simp only [if_true]
  refine ev_some ?_
  rw [wrap_id (by omega) (by omega), Int.gcd_zero]
  unfold mx; split <;> omega
 | succ n ih =>
  intro a b hb h0 h1
  refine Ev.step (fun k => by rw [impl_gcd.l0]) ?_
  by_cases hz : b = 0
  ·subst hz
   simp only [if_true]
   refine ev_some ?_
   rw [wrap_id (by omega) (by omega), Int.gcd_zero]
   unfold mx; split <;> omega
  ·simp only [if_neg hz]
   have hlt := tmod_natAbs_lt (a := a) hz
   refine ev_eq (ih b (Int.tmod a b) (by omega) (by omega) (by omega)) ?_
   rw [gcd_tmod]
theorem gcd_ev {a b : Int} (h0 : a.natAbs ≤ 9223372036854775807) (h1 : b.natAbs ≤ 9223372036854775807) : Ev (fun k => impl_gcd.f k a b) (Int.gcd a b : Int) := by
 unfold impl_gcd.f
 exact gcd_l b.natAbs a b (Nat.le_refl _) h0 h1
theorem l01Gcd_l : ∀ (n : Nat) (a b : Int), b.natAbs ≤ n → a.natAbs ≤ 9223372036854775807 → b.natAbs ≤ 9223372036854775807 → Ev (fun k => spec_l01Gcd.l0 k a b) (Int.gcd a b : Int) := by
 intro n
 induction n with
 | zero =>
  intro a b hb h0 h1
  obtain rfl : b = 0 := by omega
  refine Ev.step (fun k => by rw [spec_l01Gcd.l0]) ?_
  simp only [if_true]
  refine ev_some ?_
  rw [wrap_id (by omega) (by omega), Int.gcd_zero]
  unfold mx; split <;> omega
 | succ n ih =>
  intro a b hb h0 h1
  refine Ev.step (fun k => by rw [spec_l01Gcd.l0]) ?_
  by_cases hz : b = 0
  ·subst hz
   simp only [if_true]
   refine ev_some ?_
   rw [wrap_id (by omega) (by omega), Int.gcd_zero]
   unfold mx; split <;> omega
  ·simp only [if_neg hz]
   have hlt := tmod_natAbs_lt (a := a) hz
   refine ev_eq (ih b (Int.tmod a b) (by omega) (by omega) (by omega)) ?_
   rw [gcd_tmod]
theorem l01Gcd_ev {a b : Int} (h0 : a.natAbs ≤ 9223372036854775807) (h1 : b.natAbs ≤ 9223372036854775807) : Ev (fun k => spec_l01Gcd.f k a b) (Int.gcd a b : Int) := by
 unfold spec_l01Gcd.f
 exact l01Gcd_l b.natAbs a b (Nat.le_refl _) h0 h1
theorem IsEnd_ev {n d : Int} : Ev (fun k => impl_IsEnd.f k n d) (decide (EndOk n d)) := by
 unfold impl_IsEnd.f EndOk
 by_cases hd : d = 0
 ·simp only [if_pos hd]
  exact ev_dec (by simp)
 ·simp only [if_neg hd]
  rw [bnd (within2 (by omega) (by omega))]
  by_cases h1 : (-1000000 ≤ n ∧ n ≤ 1000000) ∧ -1000000 ≤ d ∧ d ≤ 1000000
  ·simp only [h1, and_self, decide_true, if_true]
   by_cases h2 : d > 0
   ·simp only [if_pos h2]
    rw [bnd (gcd_ev (by omega) (by omega))]
    exact ev_dec (by simp; omega)
   ·simp only [if_neg h2]
    exact ev_dec (by simp; omega)
  ·simp only [h1, decide_false, if_neg Bool.false_ne_true]
   exact ev_dec (by simp; omega)
theorem l01End_ev {n d : Int} : Ev (fun k => spec_l01End.f k n d) (decide (EndOk n d)) := by
 unfold spec_l01End.f EndOk
 by_cases hd : d = 0
 ·simp only [if_pos hd]
  exact ev_dec (by simp)
 ·simp only [if_neg hd, l01In_eq, Option.bind_some]
  by_cases h1 : 1 ≤ d ∧ d ≤ 1000000
  ·simp only [h1, and_self, decide_true, if_true]
   by_cases h2 : -1000000 ≤ n ∧ n ≤ 1000000
   ·simp only [h2, and_self, decide_true, if_true]
    rw [bnd (l01Gcd_ev (by omega) (by omega))]
    exact ev_dec (by simp; omega)
   ·simp only [h2, decide_false, if_neg Bool.false_ne_true]
    exact ev_dec (by simp; omega)
  ·simp only [h1, decide_false, if_neg Bool.false_ne_true]
   exact ev_dec (by simp; omega)
def CountR (p r : Int) : Int × Int := if IsP p then (if 0 ≤ r ∧ r ≤ 20 then (if r = 0 then (1, 0) else ((p + 1) * p ^ (r - 1).toNat, 0)) else (0, 2)) else (0, 1)
theorem count_fit {p r : Int} (hp : IsP p) (h : r ≤ 20) : 0 ≤ (p + 1) * p ^ (r - 1).toNat ∧ (p + 1) * p ^ (r - 1).toNat ≤ 9223372036854775807 := by
 have h1 := pow_pos' hp (r - 1).toNat
 have h2 := pow_le_seven hp (m := (r - 1).toNat) (n := 19) (by omega)
 have h3 := hp.le_seven
 have h4 := hp.pos
 have e : (7 : Int) ^ 19 = 11398895185373143 := by decide
 rw [e] at h2
 have h5 : (p + 1) * p ^ (r - 1).toNat ≤ 8 * p ^ (r - 1).toNat := Int.mul_le_mul_of_nonneg_right (by omega) (by omega)
 have h6 : 0 ≤ (p + 1) * p ^ (r - 1).toNat := Int.mul_nonneg (by omega) (by omega)
 omega
theorem implCountOfSphere_ev {p r : Int} : Ev (fun k => impl_CountOfSphere.f k p r) (CountR p r) := by
 unfold impl_CountOfSphere.f CountR
 simp only [isPrime_eq, Option.bind_some]
 by_cases hp : IsP p
 ·simp only [hp, decide_true, if_true]
  by_cases h1 : 0 ≤ r ∧ r ≤ 20
  ·simp only [if_neg (show ¬ r < 0 by omega), if_pos h1, show decide (r > 20) = false from decide_eq_false (by omega)]
   refine Ev.step (fun k => by rw [impl_CountOfSphere.j0]) ?_
   simp only [if_neg Bool.false_ne_true]
   by_cases h2 : r = 0
   ·simp only [if_pos h2]; exact Ev.now _
   ·have e : wrap64 (r - 1) = r - 1 := wrap_id (by omega) (by omega)
    have hf := count_fit hp h1.2
    have := hp.le_seven
    have := hp.pos
    have e2 : wrap64 (p + 1) = p + 1 := wrap_id (by omega) (by omega)
    simp only [if_neg h2, e]
    rw [bnd (power_ev hp (by omega))]
    rw [e2, wrap_id (by omega) (by omega)]
    exact Ev.now _
  ·by_cases h2 : r < 0
   ·simp only [if_pos h2, if_neg h1]
    refine Ev.step (fun k => by rw [impl_CountOfSphere.j0]) ?_
    simp only [if_true]; exact Ev.now _
   ·simp only [if_neg h2, if_neg h1, show decide (r > 20) = true from decide_eq_true (by omega)]
    refine Ev.step (fun k => by rw [impl_CountOfSphere.j0]) ?_
    simp only [if_true]; exact Ev.now _
 ·simp only [hp, decide_false, if_neg Bool.false_ne_true, if_false]; exact Ev.now _
theorem specCountOfSphere_ev {p r : Int} : Ev (fun k => spec_CountOfSphere.f k p r) (CountR p r) := by
 unfold spec_CountOfSphere.f CountR
 simp only [l01Prime_eq, l01In_eq, Option.bind_some]
 by_cases hp : IsP p
 ·simp only [hp, decide_true, if_true]
  by_cases h1 : 0 ≤ r ∧ r ≤ 20
  ·simp only [h1, and_self, decide_true, if_true]
   by_cases h2 : r = 0
   ·simp only [if_pos h2]; exact Ev.now _
   ·have e : wrap64 (r - 1) = r - 1 := wrap_id (by omega) (by omega)
    have hf := count_fit hp h1.2
    have := hp.le_seven
    have := hp.pos
    have e2 : wrap64 (p + 1) = p + 1 := wrap_id (by omega) (by omega)
    simp only [if_neg h2, e]
    rw [bnd (l01Power_ev hp (by omega))]
    rw [e2, wrap_id (by omega) (by omega)]
    exact Ev.now _
  ·simp only [h1, decide_false, if_neg Bool.false_ne_true, if_false]; exact Ev.now _
 ·simp only [hp, decide_false, if_neg Bool.false_ne_true, if_false]; exact Ev.now _
theorem ed_wrap {n d : Int} (hd : d ≠ 0) (h0 : n.natAbs ≤ 9223372036854775807) (h1 : d.natAbs ≤ 9223372036854775807) : wrap64 (edN n d) = edN n d ∧ wrap64 (edD n d) = edD n d ∧ wrap64 (-edN n d) = -edN n d := by
 obtain ⟨a, b, c, e, _⟩ := ed_facts (n := n) hd
 exact ⟨wrap_id (by omega) (by omega), wrap_id (by omega) (by omega), wrap_id (by omega) (by omega)⟩
theorem mx_abs {x : Int} : mx x (-x) ≤ 1000000 ↔ -1000000 ≤ x ∧ x ≤ 1000000 := by unfold mx; split <;> omega
theorem l01EndOf_ev {n d : Int} (h0 : n.natAbs ≤ 9223372036854775807) (h1 : d.natAbs ≤ 9223372036854775807) : Ev (fun k => spec_l01EndOf.f k n d) (EAt n d) := by
 unfold spec_l01EndOf.f EAt
 by_cases hd : d = 0
 ·simp only [if_pos hd]; exact Ev.now _
 ·simp only [if_neg hd]
  rw [bnd (l01Gcd_ev h0 h1)]
  obtain ⟨w1, w2, w3⟩ := ed_wrap (n := n) hd h0 h1
  obtain ⟨g0, _, _, g3, g4, _⟩ := edG_facts (n := n) hd
  have hok := ed_ok (n := n) hd
  have w1' : wrap64 (Int.tdiv n (edG n d)) = edN n d := w1
  have w2' : wrap64 (Int.tdiv d (edG n d)) = edD n d := w2
  by_cases hn : d < 0
  ·have e : wrap64 (-(Int.gcd n d : Int)) = edG n d := by
    have : edG n d = -(Int.gcd n d : Int) := by unfold edG; rw [if_pos hn]
    rw [← this]; exact wrap_id (by omega) (by omega)
   simp only [if_pos hn, e, if_neg g0, w1', w2', w3]
   by_cases h2 : edD n d ≤ 1000000
   ·simp only [if_pos h2]
    refine ev_some ?_
    have : (mx (edN n d) (-edN n d) ≤ 1000000) ↔ EndOk (edN n d) (edD n d) := by rw [mx_abs, hok]; simp [h2]
    simp only [this]
   ·simp only [if_neg h2]
    refine ev_some ?_
    have : ¬ EndOk (edN n d) (edD n d) := by rw [hok]; simp [h2]
    simp [this]
  ·have e : (Int.gcd n d : Int) = edG n d := by unfold edG; rw [if_neg hn]
   simp only [if_neg hn, e, if_neg g0, w1', w2', w3]
   by_cases h2 : edD n d ≤ 1000000
   ·simp only [if_pos h2]
    refine ev_some ?_
    have : (mx (edN n d) (-edN n d) ≤ 1000000) ↔ EndOk (edN n d) (edD n d) := by rw [mx_abs, hok]; simp [h2]
    simp only [this]
   ·simp only [if_neg h2]
    refine ev_some ?_
    have : ¬ EndOk (edN n d) (edD n d) := by rw [hok]; simp [h2]
    simp [this]
theorem l01MulMod_eq {a b m : Int} (h0 : 0 < m) (h1 : m ≤ 100000000000) : spec_l01MulMod.f a b m = some (a * b % m) := by
 unfold spec_l01MulMod.f
 have ha := mod_between (n := a) h0
 have hb := mod_between (n := b) h0
 have ea : wrap64 (Int.tmod a m + m) = Int.tmod a m + m := wrap_id (by omega) (by omega)
 have eb : wrap64 (Int.tmod b m + m) = Int.tmod b m + m := wrap_id (by omega) (by omega)
 have a0 := Int.emod_nonneg a (Int.ne_of_gt h0)
 have a1 := Int.emod_lt_of_pos a h0
 have b0 := Int.emod_nonneg b (Int.ne_of_gt h0)
 have b1 := Int.emod_lt_of_pos b h0
 rw [if_neg (Int.ne_of_gt h0)]
 simp only [ea, eb, mod_eq h0]
 rw [Int.tmod_eq_emod_of_nonneg b0, Int.tdiv_eq_ediv_of_nonneg b0]
 have hq0 : 0 ≤ b % m / 1000000 := by omega
 have hq1 : b % m / 1000000 ≤ 100000 := by omega
 have hr0 : 0 ≤ b % m % 1000000 := by omega
 have hr1 : b % m % 1000000 ≤ 1000000 := by omega
 have eq : wrap64 (b % m / 1000000) = b % m / 1000000 := wrap_id (by omega) (by omega)
 rw [eq]
 have p1 : 0 ≤ a % m * (b % m / 1000000) := Int.mul_nonneg a0 hq0
 have p2 : a % m * (b % m / 1000000) ≤ 100000000000 * 100000 := Int.mul_le_mul (by omega) hq1 hq0 (by omega)
 have p3 : 0 ≤ a % m * (b % m % 1000000) := Int.mul_nonneg a0 hr0
 have p4 : a % m * (b % m % 1000000) ≤ 100000000000 * 1000000 := Int.mul_le_mul (by omega) hr1 hr0 (by omega)
 rw [wrap_id (x := a % m * (b % m / 1000000)) (by omega) (by omega), wrap_id (x := a % m * (b % m % 1000000)) (by omega) (by omega)]
 rw [Int.tmod_eq_emod_of_nonneg p1, Int.tmod_eq_emod_of_nonneg p3]
 have c0 := Int.emod_nonneg (a % m * (b % m / 1000000)) (Int.ne_of_gt h0)
 have c1 := Int.emod_lt_of_pos (a % m * (b % m / 1000000)) h0
 have d0 := Int.emod_nonneg (a % m * (b % m % 1000000)) (Int.ne_of_gt h0)
 have d1 := Int.emod_lt_of_pos (a % m * (b % m % 1000000)) h0
 rw [wrap_id (x := a % m * (b % m / 1000000) % m * 1000000) (by omega) (by omega)]
 have e0 : 0 ≤ a % m * (b % m / 1000000) % m * 1000000 := by omega
 rw [Int.tmod_eq_emod_of_nonneg e0]
 have f0 := Int.emod_nonneg (a % m * (b % m / 1000000) % m * 1000000) (Int.ne_of_gt h0)
 have f1 := Int.emod_lt_of_pos (a % m * (b % m / 1000000) % m * 1000000) h0
 rw [wrap_id (by omega) (by omega), Int.tmod_eq_emod_of_nonneg (by omega), mulmod_eq]
theorem l01InvMod_l {n m : Int} (hm : 0 < m) (hm' : m ≤ 1000000000000) : ∀ (k : Nat) (a b : Nat) (x y : Int), b ≤ k → Euc n m a b x y → (a : Int) ≤ 1000000000000 → (b : Int) ≤ 1000000000000 →
  ∃ r, Ev (fun k => spec_l01InvMod.l0 k m a b x y) r ∧ 0 ≤ r ∧ r < m ∧ m ∣ r * n - 1 := by
 intro k
 induction k with
 | zero =>
  intro a b x y hb he ha1 hb1
  obtain rfl : b = 0 := by omega
  have hl := he.last
  have hbd := he.bounds
  refine ⟨x % m, ?_, Int.emod_nonneg _ (Int.ne_of_gt hm), Int.emod_lt_of_pos _ hm, ?_⟩
  ·refine Ev.step (fun k => by rw [spec_l01InvMod.l0]) ?_
   have hx := mod_between (n := x) hm
   rw [wrap_id (x := Int.tmod x m + m) (by omega) (by omega), mod_eq hm]
   simp only [Int.natCast_zero, if_true, if_neg (Int.ne_of_gt hm)]
   exact Ev.now _
  ·have h1 := dvd_emod_sub x m
   have h2 : x % m * n - 1 = (x % m - x) * n + (x * n - 1) := by rw [Int.sub_mul]; omega
   rw [h2]
   exact Int.dvd_add (Int.dvd_trans h1 (Int.dvd_mul_right _ _)) hl
 | succ k ih =>
  intro a b x y hb he ha1 hb1
  by_cases hz : b = 0
  ·exact ih a b x y (by omega) he ha1 hb1
  ·have hnx := he.next (by omega)
   obtain ⟨r, hr, h0, h1, h2⟩ := ih b (a % b) y (x - (a / b : Nat) * y) (by have := Nat.mod_lt a (show 0 < b by omega); omega) hnx hb1 (by have := Nat.mod_lt a (show 0 < b by omega); omega)
   refine ⟨r, ?_, h0, h1, h2⟩
   refine Ev.step (fun k => by rw [spec_l01InvMod.l0]) ?_
   suffices hs : wrap64 (Int.tdiv (a : Int) b) = (a / b : Nat) ∧ wrap64 ((a : Int) - wrap64 ((a / b : Nat) * (b : Int))) = (a % b : Nat) ∧ wrap64 (x - wrap64 ((a / b : Nat) * y)) = x - (a / b : Nat) * y by
    simp only [if_neg (show ¬ (b : Int) = 0 by omega), hs.1, hs.2.1, hs.2.2]
    exact hr
   have hbd := he.bounds
   have hbd2 := hnx.bounds
   have hbz : ¬ (b : Int) = 0 := by omega
   have eq : Int.tdiv (a : Int) b = (a / b : Nat) := by rw [Int.tdiv_eq_ediv_of_nonneg (by omega), Int.natCast_ediv]
   have hdm := Nat.div_add_mod a b
   have hle := Nat.div_le_self a b
   have hmod := Nat.mod_le a b
   have hprod : ((a / b : Nat) : Int) * b = a - (a % b : Nat) := by
    have : ((b * (a / b) + a % b : Nat) : Int) = (a : Int) := by rw [hdm]
    rw [Int.natCast_add, Int.natCast_mul, Int.mul_comm (b : Int)] at this
    omega
   rw [eq]
   exact euc_wraps hle hmod hprod (by omega) hm hm' hbd hbd2
theorem l01InvMod_ev {p n : Int} (h : IsP p) {e : Nat} (he : e ≤ 14) (hn : ¬ p ∣ n) :
  ∃ r, Ev (fun k => spec_l01InvMod.f k n (p ^ e)) r ∧ 0 ≤ r ∧ r < p ^ e ∧ p ^ e ∣ r * n - 1 := by
 have h0 := pow_pos' h e
 have h7 := pow_le_seven h (m := e) (n := 14) (by omega)
 have e14 : (7 : Int) ^ 14 = 678223072849 := by decide
 have hb := mod_between (n := n) h0
 have hst := Euc.start (n := n) h0 (coprime_start h hn e)
 have hr0 := Int.emod_nonneg n (Int.ne_of_gt h0)
 have hr1 := Int.emod_lt_of_pos n h0
 obtain ⟨r, hr, a, b, c⟩ := l01InvMod_l h0 (by omega) _ _ _ _ _ (Nat.le_refl _) hst (by omega) (by omega)
 refine ⟨r, ?_, a, b, c⟩
 unfold spec_l01InvMod.f
 simp only [if_neg (Int.ne_of_gt h0)]
 rw [wrap_id (x := Int.tmod n (p ^ e) + p ^ e) (by omega) (by omega), mod_eq h0]
 rw [Int.toNat_of_nonneg hr0, Int.toNat_of_nonneg (by omega)] at hr
 exact hr
theorem l01Of_ev {p num den level x : Int} (h : IsP p) (l0 : -6 ≤ level) (l1 : level ≤ 6) (hden : den ≠ 0)
  (n0 : -4000000000000000000 ≤ num ∧ num ≤ 4000000000000000000) (d0 : -4000000000000000000 ≤ den ∧ den ≤ 4000000000000000000)
  (hx : p ^ ((level + 6).toNat + vl p den) ∣ x * den - num * p ^ 6) (hfit : num = 0 ∨ vl p den ≤ vl p num + 6) :
  Ev (fun k => spec_l01Of.f k p num den level) (level, ofMt p level x, (ofMd p level x : Int), true) := by
 unfold spec_l01Of.f
 simp only [l01In_eq, Option.bind_some, show (-6 ≤ level ∧ level ≤ 6) from ⟨l0, l1⟩, and_self, decide_true, if_true]
 by_cases hz : num = 0
 ·obtain ⟨h1, h2⟩ := of_low h hden hx (.inl hz) l0
  simp only [if_pos hz, h1, h2]
  exact Ev.now _
 ·simp only [if_neg hz]
  have b1 := vl_le_62 h hz (by omega) (by omega)
  have b2 := vl_le_62 h hden (by omega) (by omega)
  rw [bnd (l01Val_ev h hz (by omega) (by omega)), bnd (l01Val_ev h hden (by omega) (by omega))]
  have e1 : wrap64 ((vl p num : Int) - vl p den) = (vl p num : Int) - vl p den := wrap_id (by omega) (by omega)
  have e2 : wrap64 ((vl p den : Int) - vl p num) = (vl p den : Int) - vl p num := wrap_id (by omega) (by omega)
  simp only [e1, e2]
  by_cases hlow : level ≤ (vl p num : Int) - vl p den
  ·obtain ⟨h1, h2⟩ := of_low h hden hx (.inr (by omega)) l0
   simp only [if_pos hlow, h1, h2]
   exact Ev.now _
  ·have hfit' : vl p den ≤ vl p num + 6 := by rcases hfit with h1 | h1; exact absurd h1 hz; exact h1
   have e3 : mx ((vl p den : Int) - vl p num) 0 = ((vl p den - vl p num : Nat) : Int) := by unfold mx; split <;> omega
   have e4 : mx ((vl p num : Int) - vl p den) 0 = ((vl p num - vl p den : Nat) : Int) := by unfold mx; split <;> omega
   have e5 : wrap64 (level + ((vl p den - vl p num : Nat) : Int)) = level + ((vl p den - vl p num : Nat) : Int) := wrap_id (by omega) (by omega)
   simp only [if_neg hlow, e3, e4, e5, if_neg (show ¬ ((vl p den - vl p num : Nat) : Int) > 6 by omega)]
   obtain ⟨un, hun, hund, _⟩ := vl_split h num hz
   obtain ⟨ud, hud, hudd, _⟩ := vl_split h den hden
   rw [bnd (l01Power_ev h (by omega)), bnd (l01Power_any h hz (by omega) (by omega))]
   simp only [if_neg (pow_ne' h _)]
   rw [bnd (l01Power_any h hden (by omega) (by omega))]
   simp only [if_neg (pow_ne' h _)]
   have q1 : Int.tdiv num (p ^ vl p num) = un := by
    conv => lhs; arg 1; rw [hun]
    exact tdiv_mul_left (pow_ne' h _)
   have q2 : Int.tdiv den (p ^ vl p den) = ud := by
    conv => lhs; arg 1; rw [hud]
    exact tdiv_mul_left (pow_ne' h _)
   have c1 := tdiv_bounds (n := num) (m := p ^ vl p num)
   have c2 := tdiv_bounds (n := den) (m := p ^ vl p den)
   rw [q1] at c1
   rw [q2] at c2
   simp only [q1, q2, wrap_id (x := un) (by omega) (by omega), wrap_id (x := ud) (by omega) (by omega)]
   have h12 := pow_le_seven h (m := (level + ((vl p den - vl p num : Nat) : Int)).toNat) (n := 12) (by omega)
   have e12 : (7 : Int) ^ 12 = 13841287201 := by decide
   have hpp := pow_pos' h (level + ((vl p den - vl p num : Nat) : Int)).toNat
   obtain ⟨inv, hinv, _, _, hid⟩ := l01InvMod_ev h (n := ud) (e := (level + ((vl p den - vl p num : Nat) : Int)).toNat) (by omega) hudd
   rw [bnd hinv]
   simp only [l01MulMod_eq hpp (by omega), Option.bind_some]
   rw [bnd (l01Power_ev h (by omega))]
   have hx' : p ^ ((level + 6).toNat + vl p den) ∣ x * (p ^ vl p den * ud) - p ^ vl p num * un * p ^ 6 := by
    rw [← hun, ← hud]; exact hx
   obtain ⟨h1, h2⟩ := of_high h l0 l1 hund hudd hx' (by omega) hfit' hid
   rw [h1, h2]
   simp only [Int.toNat_natCast]
   exact Ev.now _
theorem l01Of_out {p num den level : Int} (hl : ¬ (-6 ≤ level ∧ level ≤ 6)) : Ev (fun k => spec_l01Of.f k p num den level) (0, 0, 0, false) := by
 unfold spec_l01Of.f
 simp only [l01In_eq, Option.bind_some, hl, decide_false, if_neg Bool.false_ne_true]
 exact Ev.now _
theorem l01Of_pow {p t d level : Int} (h : IsP p) (hd : 0 ≤ d ∧ d ≤ 6) (n0 : -4000000000000000000 ≤ t ∧ t ≤ 4000000000000000000) :
  Ev (fun k => spec_l01Of.f k p t (p ^ d.toNat) level) (if -6 ≤ level ∧ level ≤ 6 then (level, ofMt p level (mk p t d), (ofMd p level (mk p t d) : Int), true) else (0, 0, 0, false)) := by
 by_cases hl : -6 ≤ level ∧ level ≤ 6
 ·rw [if_pos hl]
  have h0 := pow_pos' h d.toNat
  have h1 := pow_le_22 h (n := d.toNat) (by omega)
  refine l01Of_ev h hl.1 hl.2 (by omega) n0 (by omega) ?_ (.inr (by rw [vl_pow h]; omega))
  have e : mk p t d * p ^ d.toNat - t * p ^ 6 = 0 := by
   unfold mk
   rw [Int.mul_assoc, ← Int.pow_add]
   have : (6 - d).toNat + d.toNat = 6 := by omega
   rw [this]; omega
  rw [e]; exact Int.dvd_zero _
 ·rw [if_neg hl]
  exact l01Of_out hl
theorem mk_bound {p t d : Int} (h : IsP p) (hd : 0 ≤ d) (ht : -13841287201 ≤ t ∧ t ≤ 13841287201) : -1628413597910449 ≤ mk p t d ∧ mk p t d ≤ 1628413597910449 := by
 unfold mk
 have h0 := pow_pos' h (6 - d).toNat
 have h1 := pow_le_seven h (m := (6 - d).toNat) (n := 6) (by omega)
 have e : (7 : Int) ^ 6 = 117649 := by decide
 rw [e] at h1
 rcases Int.le_total 0 t with h2 | h2
 ·have a := Int.mul_le_mul ht.2 h1 (Int.le_of_lt h0) (by omega)
  have b := Int.mul_nonneg h2 (Int.le_of_lt h0)
  omega
 ·have a := Int.mul_le_mul (show -t ≤ 13841287201 by omega) h1 (Int.le_of_lt h0) (by omega)
  have b := Int.mul_nonneg (show 0 ≤ -t by omega) (Int.le_of_lt h0)
  rw [Int.neg_mul] at a b
  omega
theorem mark_ev {p l t d : Int} (h : IsP p) (hb : Bal p l t d) : Ev (fun k => impl_mark.f k p l t d) (mk p t d) := by
 unfold impl_mark.f
 have hs := hb.small h
 have hd : 0 ≤ d ∧ d ≤ 6 := by unfold Bal at hb; omega
 have hm := mk_bound h hd.1 (t := t) (by omega)
 have e : wrap64 (6 - d) = 6 - d := wrap_id (by omega) (by omega)
 simp only [e]
 rw [bnd (power_ev h (by omega))]
 exact ev_some (wrap_id (x := mk p t d) (by omega) (by omega))
theorem mark_le {p l t d : Int} (h : IsP p) (hb : Bal p l t d) : 0 ≤ mk p t d ∧ mk p t d < 13841287201 := by
 have hm := hb.mark h
 have h1 := pow_le_seven h (m := (l + 6).toNat) (n := 12) (by unfold Bal at hb; omega)
 have e : (7 : Int) ^ 12 = 13841287201 := by decide
 omega
theorem ofMark_ev {p level x : Int} (h : IsP p) (hx : -4000000000000000000 ≤ x ∧ x ≤ 4000000000000000000) :
  Ev (fun k => impl_ofMark.f k p level x) (if -6 ≤ level ∧ level ≤ 6 then (level, ofMt p level x, (ofMd p level x : Int), true) else (0, 0, 0, false)) := by
 unfold impl_ofMark.f
 simp only [isLevel_eq, Option.bind_some]
 by_cases hl : -6 ≤ level ∧ level ≤ 6
 ·have e : wrap64 (level + 6) = level + 6 := wrap_id (by omega) (by omega)
  simp only [hl, and_self, decide_true, if_true, e]
  rw [bnd (power_ev h (by omega))]
  have h0 := pow_pos' h (level + 6).toNat
  have h1 := pow_le_seven h (m := (level + 6).toNat) (n := 12) (by omega)
  have e12 : (7 : Int) ^ 12 = 13841287201 := by decide
  simp only [mod_ev h0 (by omega), Option.bind_some]
  have y0 := Int.emod_nonneg x (Int.ne_of_gt h0)
  have y1 := Int.emod_lt_of_pos x h0
  rw [bnd (valuation_any h (by omega) (by omega))]
  have hvx : vx p (x % p ^ (level + 6).toNat) ≤ 1000 ∧ 0 ≤ vx p (x % p ^ (level + 6).toNat) := by
   unfold vx
   split
   ·omega
   ·rename_i hz
    have := vl_le_62 h hz (by omega) (by omega)
    omega
  have e2 : wrap64 (6 - vx p (x % p ^ (level + 6).toNat)) = 6 - vx p (x % p ^ (level + 6).toNat) := wrap_id (by omega) (by omega)
  have e3 : mx (6 - vx p (x % p ^ (level + 6).toNat)) 0 = (ofMd p level x : Int) := by
   unfold vx ofMd mx
   by_cases hz : x % p ^ (level + 6).toNat = 0
   ·simp only [if_pos hz]; omega
   ·simp only [if_neg hz]; split <;> omega
  have hd6 := ofMd_le p level x
  have e4 : wrap64 (6 - (ofMd p level x : Int)) = 6 - (ofMd p level x : Int) := wrap_id (by omega) (by omega)
  simp only [e2, e3, e4]
  rw [bnd (power_ev h (by omega))]
  have e5 : (6 - (ofMd p level x : Int)).toNat = 6 - ofMd p level x := by omega
  simp only [if_neg (pow_ne' h _), e5]
  have hq := tdiv_bounds (n := x % p ^ (level + 6).toNat) (m := p ^ (6 - ofMd p level x))
  rw [wrap_id (by omega) (by omega)]
  have e6 : Int.tdiv (x % p ^ (level + 6).toNat) (p ^ (6 - ofMd p level x)) = ofMt p level x := by
   unfold ofMt
   exact Int.tdiv_eq_ediv_of_nonneg y0
  rw [e6]
  exact Ev.now _
 ·simp only [hl, decide_false, if_neg Bool.false_ne_true, if_false]
  exact Ev.now _
def ParR (p l t d : Int) : Int × Int × Int × Bool := if -6 ≤ l - 1 ∧ l - 1 ≤ 6 then (l - 1, ofMt p (l - 1) (mk p t d), (ofMd p (l - 1) (mk p t d) : Int), true) else (0, 0, 0, false)
theorem l01Parent_ev {p l t d : Int} (h : IsP p) (hb : Bal p l t d) : Ev (fun k => spec_l01Parent.f k p l t d) (ParR p l t d) := by
 unfold spec_l01Parent.f ParR
 have hs := hb.small h
 have hr : -6 ≤ l ∧ l ≤ 6 ∧ 0 ≤ d ∧ d ≤ 6 := by unfold Bal at hb; omega
 have e : wrap64 (l - 1) = l - 1 := wrap_id (by omega) (by omega)
 simp only [e]
 rw [bnd (l01Power_ev h (by omega)), bnd (l01Of_pow h (by omega) (by omega))]
 exact Ev.now _
theorem parent_ev {p l t d : Int} (h : IsP p) (hb : Bal p l t d) : Ev (fun k => impl_parent.f k p l t d) (ParR p l t d) := by
 unfold impl_parent.f ParR
 have hs := mark_le h hb
 have hr : -6 ≤ l ∧ l ≤ 6 ∧ 0 ≤ d ∧ d ≤ 6 := by unfold Bal at hb; omega
 have e : wrap64 (l - 1) = l - 1 := wrap_id (by omega) (by omega)
 simp only [e]
 rw [bnd (mark_ev h hb), bnd (ofMark_ev h (by omega))]
 exact Ev.now _
theorem over_max {p ta da tb db : Int} (h : IsP p) (ha : 0 ≤ da ∧ da ≤ 6) (hb : 0 ≤ db ∧ db ≤ 6) (ta0 : 0 ≤ ta ∧ ta ≤ 13841287201) (tb0 : 0 ≤ tb ∧ tb ≤ 13841287201) :
  wrap64 (mx da db - da) = mx da db - da ∧ wrap64 (mx da db - db) = mx da db - db ∧ 0 ≤ mx da db ∧ mx da db ≤ 6 ∧ da ≤ mx da db ∧ db ≤ mx da db ∧
  wrap64 (ta * p ^ (mx da db - da).toNat) = ta * p ^ (mx da db - da).toNat ∧ wrap64 (tb * p ^ (mx da db - db).toNat) = tb * p ^ (mx da db - db).toNat ∧
  (0 ≤ ta * p ^ (mx da db - da).toNat ∧ ta * p ^ (mx da db - da).toNat ≤ 1628413597910449) ∧ (0 ≤ tb * p ^ (mx da db - db).toNat ∧ tb * p ^ (mx da db - db).toNat ≤ 1628413597910449) ∧
  mk p (ta * p ^ (mx da db - da).toNat) (mx da db) = mk p ta da ∧ mk p (tb * p ^ (mx da db - db).toNat) (mx da db) = mk p tb db := by
 have hm : 0 ≤ mx da db ∧ mx da db ≤ 6 ∧ da ≤ mx da db ∧ db ≤ mx da db := by unfold mx; split <;> omega
 have key : ∀ {t : Int} {e : Int}, 0 ≤ t ∧ t ≤ 13841287201 → e ≤ 6 → 0 ≤ t * p ^ e.toNat ∧ t * p ^ e.toNat ≤ 1628413597910449 := by
  intro t e ht he
  have h0 := pow_pos' h e.toNat
  have h1 := pow_le_seven h (m := e.toNat) (n := 6) (by omega)
  have e6 : (7 : Int) ^ 6 = 117649 := by decide
  rw [e6] at h1
  have a := Int.mul_le_mul ht.2 h1 (Int.le_of_lt h0) (by omega)
  exact ⟨Int.mul_nonneg ht.1 (Int.le_of_lt h0), by omega⟩
 have ka := key ta0 (e := mx da db - da) (by omega)
 have kb := key tb0 (e := mx da db - db) (by omega)
 have kk : ∀ {t e : Int}, 0 ≤ e → e ≤ mx da db → mk p (t * p ^ (mx da db - e).toNat) (mx da db) = mk p t e := by
  intro t e he0 he
  unfold mk
  rw [Int.mul_assoc, ← Int.pow_add]
  congr 2
  omega
 exact ⟨wrap_id (by omega) (by omega), wrap_id (by omega) (by omega), hm.1, hm.2.1, hm.2.2.1, hm.2.2.2, wrap_id (by omega) (by omega), wrap_id (by omega) (by omega), ka, kb, kk ha.1 hm.2.2.1, kk hb.1 hm.2.2.2⟩
theorem mk_sub (p s t d : Int) : mk p (s - t) d = mk p s d - mk p t d := by unfold mk; rw [Int.sub_mul]
theorem joinLevel_ev {p l t d l' t' d' : Int} (h : IsP p) (hb : Bal p l t d) (hb' : Bal p l' t' d') : Ev (fun k => impl_joinLevel.f k p l t d l' t' d') (joinL p l t d l' t' d') := by
 unfold impl_joinLevel.f joinL
 have hm := mark_le h hb
 have hm' := mark_le h hb'
 have hr : -6 ≤ l ∧ l ≤ 6 ∧ -6 ≤ l' ∧ l' ≤ 6 := by unfold Bal at hb hb'; omega
 rw [bnd (mark_ev h hb), bnd (mark_ev h hb'), wrap_id (by omega) (by omega), bnd (valuation_any h (by omega) (by omega))]
 unfold vx
 by_cases e : mk p t d = mk p t' d'
 ·rw [if_pos e, if_pos (by omega), wrap_id (by omega) (by omega)]
  refine ev_some ?_
  unfold mn; repeat' split
  all_goals omega
 ·have hz : ¬ mk p t d - mk p t' d' = 0 := by omega
  have := vl_le_62 h hz (by omega) (by omega)
  rw [if_neg e, if_neg hz, wrap_id (by omega) (by omega)]
  exact Ev.now _
theorem l02Valuation_ev {p l t d l' t' d' : Int} (h : IsP p) (hb : Bal p l t d) (hb' : Bal p l' t' d') : Ev (fun k => spec_l02Valuation.f k p l t d l' t' d') (if mk p t d = mk p t' d' then (0, false) else ((vl p (mk p t d - mk p t' d') : Int) - 6, true)) := by
 unfold spec_l02Valuation.f
 have hs := hb.small h
 have hs' := hb'.small h
 have hdd : (0 ≤ d ∧ d ≤ 6) ∧ 0 ≤ d' ∧ d' ≤ 6 := by unfold Bal at hb hb'; omega
 obtain ⟨e1, e2, m0, m1, m2, m3, e3, e4, b1, b2, k1, k2⟩ := over_max h hdd.1 hdd.2 hs hs'
 simp only [e1, e2]
 rw [bnd (l01Power_ev h (by omega)), bnd (l01Power_ev h (by omega)), e3, e4, wrap_id (by omega) (by omega)]
 have hk : (t * p ^ (mx d d' - d).toNat - t' * p ^ (mx d d' - d').toNat) * p ^ (6 - mx d d').toNat = mk p t d - mk p t' d' := by
  rw [← k1, ← k2, ← mk_sub]; rfl
 generalize hw : t * p ^ (mx d d' - d).toNat - t' * p ^ (mx d d' - d').toNat = w at *
 have hp6 := pow_pos' h (6 - mx d d').toNat
 by_cases hz : w = 0
 ·have e : mk p t d = mk p t' d' := by rw [hz, Int.zero_mul] at hk; omega
  rw [if_pos e]
  simp only [if_pos hz]
  exact Ev.now _
 ·have hne := Int.mul_ne_zero hz (Int.ne_of_gt hp6)
  have e : ¬ mk p t d = mk p t' d' := by rw [hk] at hne; omega
  rw [if_neg e, ← hk, Int.mul_comm w, vl_pow_mul h hz]
  have hv := vl_le_62 h hz (by omega) (by omega)
  simp only [if_neg hz]
  rw [bnd (l01Val_ev h hz (by omega) (by omega)), wrap_id (by omega) (by omega)]
  refine ev_some ?_
  have : ((vl p w : Int) - mx d d') = ((((6 - mx d d').toNat + vl p w : Nat) : Int) - 6) := by omega
  rw [this]
theorem l02Join_ev {p l t d l' t' d' : Int} (h : IsP p) (hb : Bal p l t d) (hb' : Bal p l' t' d') : Ev (fun k => spec_l02Join.f k p l t d l' t' d') (joinL p l t d l' t' d') := by
 unfold spec_l02Join.f joinL
 rw [bnd (l02Valuation_ev h hb hb')]
 by_cases e : mk p t d = mk p t' d'
 ·simp only [if_pos e, if_neg Bool.false_ne_true]; exact Ev.now _
 ·simp only [if_neg e, if_true]; exact Ev.now _
def distL (p la ta da lb tb db : Int) : Int := la + lb - 2 * joinL p la ta da lb tb db
theorem dist_wrap {p l t d l' t' d' : Int} (hb : Bal p l t d) (hb' : Bal p l' t' d') : wrap64 (wrap64 (l + l') - wrap64 (2 * joinL p l t d l' t' d')) = distL p l t d l' t' d' := by
 have hr : -6 ≤ l ∧ l ≤ 6 ∧ -6 ≤ l' ∧ l' ≤ 6 := by unfold Bal at hb hb'; omega
 have h1 := joinL_le (p := p) (la := l) (ta := t) (da := d) (lb := l') (tb := t') (db := d')
 have h2 := joinL_ge (p := p) (ta := t) (da := d) (tb := t') (db := d') hr.1 hr.2.2.1
 unfold distL
 rw [wrap_id (x := l + l') (by omega) (by omega), wrap_id (x := 2 * _) (by omega) (by omega), wrap_id (by omega) (by omega)]
theorem distance_ev {p l t d l' t' d' : Int} (h : IsP p) (hb : Bal p l t d) (hb' : Bal p l' t' d') : Ev (fun k => impl_distance.f k p l t d l' t' d') (distL p l t d l' t' d') := by
 unfold impl_distance.f
 rw [bnd (joinLevel_ev h hb hb'), dist_wrap hb hb']
 exact Ev.now _
theorem l02Distance_ev {p l t d l' t' d' : Int} (h : IsP p) (hb : Bal p l t d) (hb' : Bal p l' t' d') : Ev (fun k => spec_l02Distance.f k p l t d l' t' d') (distL p l t d l' t' d') := by
 unfold spec_l02Distance.f
 rw [bnd (l02Join_ev h hb hb'), dist_wrap hb hb']
 exact Ev.now _
def DistR (p la ta da lb tb db : Int) : Int × Int := if IsP p ∧ Bal p la ta da ∧ Bal p lb tb db then (distL p la ta da lb tb db, 0) else (0, 1)
theorem implTreeDistance_ev {p l t d l' t' d' : Int} (hl : -9223372036854775808 ≤ l ∧ l ≤ 9223372036854775807) (hd : -9223372036854775808 ≤ d ∧ d ≤ 9223372036854775807)
  (hl' : -9223372036854775808 ≤ l' ∧ l' ≤ 9223372036854775807) (hd' : -9223372036854775808 ≤ d' ∧ d' ≤ 9223372036854775807) : Ev (fun k => impl_TreeDistance.f k p l t d l' t' d') (DistR p l t d l' t' d') := by
 unfold impl_TreeDistance.f DistR
 rw [bnd (areBalls2 hl hd hl' hd')]
 by_cases h : IsP p ∧ Bal p l t d ∧ Bal p l' t' d'
 ·simp only [h, and_self, decide_true, if_true]
  rw [bnd (distance_ev h.1 h.2.1 h.2.2)]
  exact Ev.now _
 ·simp only [h, decide_false, if_neg Bool.false_ne_true, if_false]; exact Ev.now _
theorem above_ev {p l t d n : Int} (h : IsP p) (hb : Bal p l t d) (hn : -6 ≤ n ∧ n ≤ 6) : Ev (fun k => impl_above.f k p l t d n) (n, ofMt p n (mk p t d), (ofMd p n (mk p t d) : Int)) := by
 unfold impl_above.f
 have hm := mark_le h hb
 rw [bnd (mark_ev h hb), bnd (ofMark_ev h (by omega))]
 simp only [hn, and_self, if_true]
 exact Ev.now _
theorem l02Up_ev {p l t d n : Int} (h : IsP p) (hb : Bal p l t d) (hn : -6 ≤ n ∧ n ≤ 6) : Ev (fun k => spec_l02Up.f k p l t d n) (n, ofMt p n (mk p t d), (ofMd p n (mk p t d) : Int), true) := by
 unfold spec_l02Up.f
 have hs := hb.small h
 have hd : 0 ≤ d ∧ d ≤ 6 := by unfold Bal at hb; omega
 rw [bnd (l01Power_ev h (by omega)), bnd (l01Of_pow h hd (by omega))]
 simp only [hn, and_self, if_true]
 exact Ev.now _
theorem joinL_range {p l t d l' t' d' : Int} (hb : Bal p l t d) (hb' : Bal p l' t' d') : -6 ≤ joinL p l t d l' t' d' ∧ joinL p l t d l' t' d' ≤ 6 := by
 have hr : -6 ≤ l ∧ l ≤ 6 ∧ -6 ≤ l' ∧ l' ≤ 6 := by unfold Bal at hb hb'; omega
 have h1 := joinL_le (p := p) (la := l) (ta := t) (da := d) (lb := l') (tb := t') (db := d')
 have h2 := joinL_ge (p := p) (ta := t) (da := d) (tb := t') (db := d') hr.1 hr.2.2.1
 omega
theorem join_ev {p l t d l' t' d' : Int} (h : IsP p) (hb : Bal p l t d) (hb' : Bal p l' t' d') : Ev (fun k => impl_join.f k p l t d l' t' d') (joinL p l t d l' t' d', ofMt p (joinL p l t d l' t' d') (mk p t d), (ofMd p (joinL p l t d l' t' d') (mk p t d) : Int)) := by
 unfold impl_join.f
 rw [bnd (joinLevel_ev h hb hb'), bnd (above_ev h hb (joinL_range hb hb'))]
 exact Ev.now _
theorem near_parts {p l t d num den : Int} (h : IsP p) (hb : Bal p l t d) (hn : -1000000 ≤ num ∧ num ≤ 1000000) (hd : -1000000 ≤ den ∧ den ≤ 1000000) :
  wrap64 (num * p ^ 6) = num * p ^ 6 ∧ wrap64 (mk p t d * den) = mk p t d * den ∧ wrap64 (num * p ^ 6 - mk p t d * den) = num * p ^ 6 - mk p t d * den ∧ -20000000000000000 ≤ num * p ^ 6 - mk p t d * den ∧ num * p ^ 6 - mk p t d * den ≤ 20000000000000000 := by
 have hm := mark_le h hb
 have h0 := pow_pos' h 6
 have h1 := pow_le_seven h (m := 6) (n := 6) (Nat.le_refl _)
 have e6 : (7 : Int) ^ 6 = 117649 := by decide
 rw [e6] at h1
 have a : -117649000000 ≤ num * p ^ 6 ∧ num * p ^ 6 ≤ 117649000000 := by
  rcases Int.le_total 0 num with h2 | h2
  ·have a := Int.mul_le_mul hn.2 h1 (Int.le_of_lt h0) (by omega)
   have b := Int.mul_nonneg h2 (Int.le_of_lt h0)
   omega
  ·have a := Int.mul_le_mul (show -num ≤ 1000000 by omega) h1 (Int.le_of_lt h0) (by omega)
   have b := Int.mul_nonneg (show 0 ≤ -num by omega) (Int.le_of_lt h0)
   rw [Int.neg_mul] at a b
   omega
 have b : -13841287201000000 ≤ mk p t d * den ∧ mk p t d * den ≤ 13841287201000000 := by
  rcases Int.le_total 0 den with h2 | h2
  ·have a := Int.mul_le_mul (show mk p t d ≤ 13841287201 by omega) hd.2 h2 (by omega)
   have b := Int.mul_nonneg hm.1 h2
   omega
  ·have a := Int.mul_le_mul (show mk p t d ≤ 13841287201 by omega) (show -den ≤ 1000000 by omega) (by omega) (by omega)
   have b := Int.mul_nonneg hm.1 (show 0 ≤ -den by omega)
   rw [Int.mul_neg] at a b
   omega
 exact ⟨wrap_id (by omega) (by omega), wrap_id (by omega) (by omega), wrap_id (by omega) (by omega), by omega, by omega⟩
theorem nn_range {p l t d num den : Int} (h : IsP p) (hb : Bal p l t d) (hn : -1000000 ≤ num ∧ num ≤ 1000000) (hd : -1000000 ≤ den ∧ den ≤ 1000000) (hz : den ≠ 0) : -100 ≤ nn p t d num den ∧ nn p t d num den ≤ 1000 := by
 obtain ⟨_, _, _, b1, b2⟩ := near_parts h hb hn hd
 unfold nn
 split
 ·omega
 ·rename_i h0
  have := vl_le_62 h h0 (by omega) (by omega)
  have := vl_le_62 h hz (by omega) (by omega)
  omega
theorem nearness_ev {p l t d num den : Int} (h : IsP p) (hb : Bal p l t d) (hn : -1000000 ≤ num ∧ num ≤ 1000000) (hd : -1000000 ≤ den ∧ den ≤ 1000000) (hz : den ≠ 0) : Ev (fun k => impl_nearness.f k p l t d num den) (nn p t d num den) := by
 unfold impl_nearness.f nn
 obtain ⟨e1, e2, e3, b1, b2⟩ := near_parts h hb hn hd
 have p6 := power_ev h (n := 6) (by omega)
 rw [show (6 : Int).toNat = 6 from rfl] at p6
 rw [bnd p6, bnd (mark_ev h hb), e1, e2, e3]
 by_cases h0 : num * p ^ 6 - mk p t d * den = 0
 ·simp only [if_pos h0]; exact Ev.now _
 ·have v1 := vl_le_62 h h0 (by omega) (by omega)
  have v2 := vl_le_62 h hz (by omega) (by omega)
  simp only [if_neg h0]
  rw [bnd (valuation_ev h h0 (by omega) (by omega)), bnd (valuation_ev h hz (by omega) (by omega))]
  rw [wrap_id (x := (vl p (num * p ^ 6 - mk p t d * den) : Int) - vl p den) (by omega) (by omega), wrap_id (by omega) (by omega)]
  exact Ev.now _
def turnL (p l t d num den : Int) : Int := mn l (nn p t d num den)
def HeightR (p la ta da lb tb db num den : Int) : Int × Int :=
 if IsP p ∧ Bal p la ta da ∧ Bal p lb tb db then (if EndOk num den then (if den = 0 then (lb - la, 0) else (lb - 2 * turnL p lb tb db num den - la + 2 * turnL p la ta da num den, 0)) else (0, 1)) else (0, 1)
theorem end_range {num den : Int} (h : EndOk num den) (hz : den ≠ 0) : (-1000000 ≤ num ∧ num ≤ 1000000) ∧ -1000000 ≤ den ∧ den ≤ 1000000 := by
 unfold EndOk at h
 rw [if_neg hz] at h
 omega
theorem turn_range {p l t d num den : Int} (h : IsP p) (hb : Bal p l t d) (he : EndOk num den) (hz : den ≠ 0) : -100 ≤ turnL p l t d num den ∧ turnL p l t d num den ≤ 6 := by
 have hr := end_range he hz
 have := nn_range h hb hr.1 hr.2 hz
 have hl : -6 ≤ l ∧ l ≤ 6 := by unfold Bal at hb; omega
 unfold turnL mn
 split <;> omega
theorem turning_ev {p l t d num den : Int} (h : IsP p) (hb : Bal p l t d) (he : EndOk num den) (hz : den ≠ 0) : Ev (fun k => impl_turning.f k p l t d num den) (turnL p l t d num den) := by
 unfold impl_turning.f turnL
 have hr := end_range he hz
 rw [bnd (nearness_ev h hb hr.1 hr.2 hz)]
 exact Ev.now _
theorem implHeightOver_ev {p l t d l' t' d' num den : Int} (hl : -9223372036854775808 ≤ l ∧ l ≤ 9223372036854775807) (hd : -9223372036854775808 ≤ d ∧ d ≤ 9223372036854775807)
  (hl' : -9223372036854775808 ≤ l' ∧ l' ≤ 9223372036854775807) (hd' : -9223372036854775808 ≤ d' ∧ d' ≤ 9223372036854775807) : Ev (fun k => impl_HeightOver.f k p l t d l' t' d' num den) (HeightR p l t d l' t' d' num den) := by
 unfold impl_HeightOver.f HeightR
 rw [bnd (areBalls2 hl hd hl' hd')]
 by_cases h : IsP p ∧ Bal p l t d ∧ Bal p l' t' d'
 ·have hr : -6 ≤ l ∧ l ≤ 6 ∧ -6 ≤ l' ∧ l' ≤ 6 := by have h1 := h.2.1; have h2 := h.2.2; unfold Bal at h1 h2; omega
  simp only [h, and_self, decide_true, if_true]
  rw [bnd IsEnd_ev]
  refine Ev.step (fun k => by rw [impl_HeightOver.j0]) ?_
  by_cases he : EndOk num den
  ·simp only [he, decide_true, Bool.not_true, if_neg Bool.false_ne_true, if_true]
   by_cases hz : den = 0
   ·rw [wrap_id (x := l' - l) (by omega) (by omega)]
    simp only [if_pos hz]; exact Ev.now _
   ·simp only [if_neg hz]
    rw [bnd (turning_ev h.1 h.2.2 he hz), bnd (turning_ev h.1 h.2.1 he hz)]
    have t1 := turn_range h.1 h.2.1 he hz
    have t2 := turn_range h.1 h.2.2 he hz
    rw [wrap_id (x := 2 * turnL p l' t' d' num den) (by omega) (by omega), wrap_id (x := 2 * turnL p l t d num den) (by omega) (by omega), wrap_id (x := l' - 2 * turnL p l' t' d' num den) (by omega) (by omega),
     wrap_id (x := l' - 2 * turnL p l' t' d' num den - l) (by omega) (by omega), wrap_id (by omega) (by omega)]
    exact Ev.now _
  ·simp only [he, decide_false, Bool.not_false, if_true, if_false]; exact Ev.now _
 ·simp only [h, decide_false, if_neg Bool.false_ne_true, if_false]
  refine Ev.step (fun k => by rw [impl_HeightOver.j0]) ?_
  simp only [if_true]; exact Ev.now _
theorem l02Meet_ev {p l t d num den : Int} (h : IsP p) (hb : Bal p l t d) (he : EndOk num den) (hz : den ≠ 0) : Ev (fun k => spec_l02Meet.f k p l t d num den) (turnL p l t d num den) := by
 unfold spec_l02Meet.f turnL nn
 have hr := end_range he hz
 have hs := hb.small h
 have hd : -6 ≤ l ∧ l ≤ 6 ∧ 0 ≤ d ∧ d ≤ 6 := by unfold Bal at hb; omega
 have h0 := pow_pos' h d.toNat
 have h1 := pow_le_seven h (m := d.toNat) (n := 6) (by omega)
 have e6 : (7 : Int) ^ 6 = 117649 := by decide
 rw [e6] at h1
 have a : -117649000000 ≤ num * p ^ d.toNat ∧ num * p ^ d.toNat ≤ 117649000000 := by
  rcases Int.le_total 0 num with h2 | h2
  ·have a := Int.mul_le_mul hr.1.2 h1 (Int.le_of_lt h0) (by omega)
   have b := Int.mul_nonneg h2 (Int.le_of_lt h0)
   omega
  ·have a := Int.mul_le_mul (show -num ≤ 1000000 by omega) h1 (Int.le_of_lt h0) (by omega)
   have b := Int.mul_nonneg (show 0 ≤ -num by omega) (Int.le_of_lt h0)
   rw [Int.neg_mul] at a b
   omega
 have hdp : 0 < den := by unfold EndOk at he; rw [if_neg hz] at he; omega
 have b : 0 ≤ t * den ∧ t * den ≤ 13841287201000000 := by
  have a := Int.mul_le_mul hs.2 hr.2.2 (Int.le_of_lt hdp) (by omega)
  have b := Int.mul_nonneg hs.1 (Int.le_of_lt hdp)
  omega
 rw [bnd (l01Power_ev h (by omega))]
 rw [wrap_id (x := num * p ^ d.toNat) (by omega) (by omega), wrap_id (x := t * den) (by omega) (by omega), wrap_id (x := num * p ^ d.toNat - t * den) (by omega) (by omega)]
 have hk : num * p ^ 6 - mk p t d * den = p ^ (6 - d).toNat * (num * p ^ d.toNat - t * den) := by
  unfold mk
  have e : p ^ 6 = p ^ (6 - d).toNat * p ^ d.toNat := by rw [← Int.pow_add]; congr 1; omega
  rw [e, Int.mul_sub]
  simp only [Int.mul_assoc, Int.mul_comm, Int.mul_left_comm]
 have hpp := pow_pos' h (6 - d).toNat
 by_cases hq : num * p ^ d.toNat - t * den = 0
 ·simp only [if_pos hq]
  rw [if_pos (by rw [hk, hq, Int.mul_zero])]
  refine ev_some ?_
  unfold mn; rw [if_neg (by omega)]
 ·have hne := Int.mul_ne_zero (Int.ne_of_gt hpp) hq
  rw [← hk] at hne
  have v1 := vl_le_62 h hq (by omega) (by omega)
  have v2 := vl_le_62 h hz (by omega) (by omega)
  simp only [if_neg hq]
  rw [if_neg hne, bnd (l01Val_ev h hq (by omega) (by omega)), bnd (l01Val_ev h hz (by omega) (by omega))]
  rw [wrap_id (x := (vl p (num * p ^ d.toNat - t * den) : Int) - vl p den) (by omega) (by omega), wrap_id (by omega) (by omega)]
  refine ev_some ?_
  rw [hk, vl_pow_mul h hq]
  congr 1
  omega
theorem specHeightOver_ev {p l t d l' t' d' num den : Int} (hl : -9223372036854775808 ≤ l ∧ l ≤ 9223372036854775807) (hd : -9223372036854775808 ≤ d ∧ d ≤ 9223372036854775807)
  (hl' : -9223372036854775808 ≤ l' ∧ l' ≤ 9223372036854775807) (hd' : -9223372036854775808 ≤ d' ∧ d' ≤ 9223372036854775807) : Ev (fun k => spec_HeightOver.f k p l t d l' t' d' num den) (HeightR p l t d l' t' d' num den) := by
 unfold spec_HeightOver.f HeightR
 rw [bnd (l01Code2 hl hd hl' hd')]
 by_cases h : IsP p ∧ Bal p l t d ∧ Bal p l' t' d'
 ·have hr : -6 ≤ l ∧ l ≤ 6 ∧ -6 ≤ l' ∧ l' ≤ 6 := by have h1 := h.2.1; have h2 := h.2.2; unfold Bal at h1 h2; omega
  simp only [h, and_self, if_true]
  rw [bnd l01End_ev]
  refine Ev.step (fun k => by rw [spec_HeightOver.j0]) ?_
  by_cases he : EndOk num den
  ·simp only [he, decide_true, Bool.not_true, if_neg Bool.false_ne_true, if_true]
   by_cases hz : den = 0
   ·rw [wrap_id (x := l' - l) (by omega) (by omega)]
    simp only [if_pos hz]; exact Ev.now _
   ·simp only [if_neg hz]
    rw [bnd (l02Meet_ev h.1 h.2.1 he hz), bnd (l02Meet_ev h.1 h.2.2 he hz)]
    have t1 := turn_range h.1 h.2.1 he hz
    have t2 := turn_range h.1 h.2.2 he hz
    rw [wrap_id (x := 2 * turnL p l' t' d' num den) (by omega) (by omega), wrap_id (x := 2 * turnL p l t d num den) (by omega) (by omega), wrap_id (x := l' - 2 * turnL p l' t' d' num den) (by omega) (by omega),
     wrap_id (x := l - 2 * turnL p l t d num den) (by omega) (by omega), wrap_id (by omega) (by omega)]
    refine ev_some ?_
    have : l' - 2 * turnL p l' t' d' num den - (l - 2 * turnL p l t d num den) = l' - 2 * turnL p l' t' d' num den - l + 2 * turnL p l t d num den := by omega
    rw [this]
  ·simp only [he, decide_false, Bool.not_false, if_true, if_false]; exact Ev.now _
 ·simp only [h, if_false, if_neg (show ¬ (1 : Int) = 0 by omega)]
  refine Ev.step (fun k => by rw [spec_HeightOver.j0]) ?_
  simp only [if_true]; exact Ev.now _
def medL (p la ta da lb tb db lc tc dc : Int) : Int := mx (joinL p la ta da lb tb db) (joinL p la ta da lc tc dc)
def MedR (p la ta da lb tb db lc tc dc : Int) : Int × Int × Int × Int := if IsP p ∧ Bal p la ta da ∧ Bal p lb tb db ∧ Bal p lc tc dc then
 (if joinL p lb tb db lc tc dc > medL p la ta da lb tb db lc tc dc then (joinL p lb tb db lc tc dc, ofMt p (joinL p lb tb db lc tc dc) (mk p tb db), (ofMd p (joinL p lb tb db lc tc dc) (mk p tb db) : Int), 0)
   else (medL p la ta da lb tb db lc tc dc, ofMt p (medL p la ta da lb tb db lc tc dc) (mk p ta da), (ofMd p (medL p la ta da lb tb db lc tc dc) (mk p ta da) : Int), 0)) else (0, 0, 0, 1)
theorem pick_l (x y : S27) (a b c : Int) : Ev (fun k => impl_MedianOf.l0 k [x, y] 2 0 a b c) (if y.f0 > (if x.f0 > a then x.f0 else a) then (y.f0, y.f1, y.f2, 0) else if x.f0 > a then (x.f0, x.f1, x.f2, 0) else (a, b, c, 0)) := by
 have r0 : rd_T27 [x, y] 0 = x := rfl
 have r1 : rd_T27 [x, y] 1 = y := rfl
 have w1 : wrap64 ((0 : Int) + 1) = 1 := wrap_id (by omega) (by omega)
 have w2 : wrap64 ((1 : Int) + 1) = 2 := wrap_id (by omega) (by omega)
 have hlen : ([x, y].length : Int) = 2 := rfl
 have last : ∀ a b c : Int, Ev (fun k => impl_MedianOf.l0 k [x, y] 2 2 a b c) (a, b, c, 0) := by
  intro a b c
  refine Ev.step (fun k => by rw [impl_MedianOf.l0]) ?_
  simp only [if_neg (show ¬ (2 : Int) < 2 by omega)]
  exact Ev.now _
 have mid : ∀ a b c : Int, Ev (fun k => impl_MedianOf.l0 k [x, y] 2 1 a b c) (if y.f0 > a then (y.f0, y.f1, y.f2, 0) else (a, b, c, 0)) := by
  intro a b c
  refine Ev.step (fun k => by rw [impl_MedianOf.l0]) ?_
  simp only [hlen, r1, w2, if_pos (show (1 : Int) < 2 by omega), if_pos (show (0 : Int) ≤ 1 by omega)]
  by_cases h : y.f0 > a
  ·simp only [if_pos h]; exact last _ _ _
  ·simp only [if_neg h]; exact last _ _ _
 refine Ev.step (fun k => by rw [impl_MedianOf.l0]) ?_
 simp only [hlen, r0, w1, if_pos (show (0 : Int) < 2 by omega), if_pos (show (0 : Int) ≤ 0 by omega)]
 by_cases h : x.f0 > a
 ·simp only [if_pos h]; exact mid _ _ _
 ·simp only [if_neg h]; exact mid _ _ _
theorem implMedianOf_ev {p l t d l' t' d' l2 t2 d2 : Int} (hl : -9223372036854775808 ≤ l ∧ l ≤ 9223372036854775807) (hd : -9223372036854775808 ≤ d ∧ d ≤ 9223372036854775807)
  (hl' : -9223372036854775808 ≤ l' ∧ l' ≤ 9223372036854775807) (hd' : -9223372036854775808 ≤ d' ∧ d' ≤ 9223372036854775807)
  (hl2 : -9223372036854775808 ≤ l2 ∧ l2 ≤ 9223372036854775807) (hd2 : -9223372036854775808 ≤ d2 ∧ d2 ≤ 9223372036854775807) : Ev (fun k => impl_MedianOf.f k p l t d l' t' d' l2 t2 d2) (MedR p l t d l' t' d' l2 t2 d2) := by
 unfold impl_MedianOf.f MedR
 rw [bnd (areBalls3 hl hd hl' hd' hl2 hd2)]
 by_cases h : IsP p ∧ Bal p l t d ∧ Bal p l' t' d' ∧ Bal p l2 t2 d2
 ·simp only [h, and_self, decide_true, if_true]
  rw [bnd (join_ev h.1 h.2.1 h.2.2.1), bnd (join_ev h.1 h.2.1 h.2.2.2), bnd (join_ev h.1 h.2.2.1 h.2.2.2)]
  simp only [Option.bind_some]
  refine ev_eq (pick_l _ _ _ _ _) ?_
  unfold medL mx
  dsimp only
  generalize joinL p l t d l' t' d' = j1
  generalize joinL p l t d l2 t2 d2 = j2
  generalize joinL p l' t' d' l2 t2 d2 = j3
  by_cases h1 : j2 > j1
  ·have e : (if j2 < j1 then j1 else j2) = j2 := if_neg (by omega)
   simp only [if_pos h1, e]
  ·by_cases h2 : j2 < j1
   ·have e : (if j2 < j1 then j1 else j2) = j1 := if_pos h2
    simp only [if_neg h1, e]
   ·have e : j1 = j2 := by omega
    subst e
    simp only [if_neg h1, ite_self]
 ·simp only [h, decide_false, if_neg Bool.false_ne_true, if_false]; exact Ev.now _
theorem specMedianOf_ev {p l t d l' t' d' l2 t2 d2 : Int} (hl : -9223372036854775808 ≤ l ∧ l ≤ 9223372036854775807) (hd : -9223372036854775808 ≤ d ∧ d ≤ 9223372036854775807)
  (hl' : -9223372036854775808 ≤ l' ∧ l' ≤ 9223372036854775807) (hd' : -9223372036854775808 ≤ d' ∧ d' ≤ 9223372036854775807)
  (hl2 : -9223372036854775808 ≤ l2 ∧ l2 ≤ 9223372036854775807) (hd2 : -9223372036854775808 ≤ d2 ∧ d2 ≤ 9223372036854775807) : Ev (fun k => spec_MedianOf.f k p l t d l' t' d' l2 t2 d2) (MedR p l t d l' t' d' l2 t2 d2) := by
 unfold spec_MedianOf.f MedR
 rw [bnd (l01Code3 hl hd hl' hd' hl2 hd2)]
 by_cases h : IsP p ∧ Bal p l t d ∧ Bal p l' t' d' ∧ Bal p l2 t2 d2
 ·simp only [h, and_self, if_true]
  rw [bnd (l02Join_ev h.1 h.2.1 h.2.2.1), bnd (l02Join_ev h.1 h.2.1 h.2.2.2), bnd (l02Join_ev h.1 h.2.2.1 h.2.2.2)]
  have r1 := joinL_range h.2.1 h.2.2.1
  have r2 := joinL_range h.2.1 h.2.2.2
  have r3 := joinL_range h.2.2.1 h.2.2.2
  have rest : ∀ x : Int, x = medL p l t d l' t' d' l2 t2 d2 → Ev (fun k => spec_MedianOf.j0 k p (joinL p l' t' d' l2 t2 d2) x l' t' d' l t d) (if joinL p l' t' d' l2 t2 d2 > medL p l t d l' t' d' l2 t2 d2 then (joinL p l' t' d' l2 t2 d2, ofMt p (joinL p l' t' d' l2 t2 d2) (mk p t' d'), (ofMd p (joinL p l' t' d' l2 t2 d2) (mk p t' d') : Int), 0)
   else (medL p l t d l' t' d' l2 t2 d2, ofMt p (medL p l t d l' t' d' l2 t2 d2) (mk p t d), (ofMd p (medL p l t d l' t' d' l2 t2 d2) (mk p t d) : Int), 0)) := by
   intro x hx
   have r4 : -6 ≤ medL p l t d l' t' d' l2 t2 d2 ∧ medL p l t d l' t' d' l2 t2 d2 ≤ 6 := by unfold medL mx; split <;> omega
   refine Ev.step (fun k => by rw [spec_MedianOf.j0]) ?_
   rw [hx]
   by_cases hj : joinL p l' t' d' l2 t2 d2 > medL p l t d l' t' d' l2 t2 d2
   ·simp only [if_pos hj]
    rw [bnd (l02Up_ev h.1 h.2.2.1 r3)]
    exact Ev.now _
   ·simp only [if_neg hj]
    rw [bnd (l02Up_ev h.1 h.2.1 r4)]
    exact Ev.now _
  by_cases h1 : joinL p l t d l2 t2 d2 > joinL p l t d l' t' d'
  ·simp only [if_pos h1]
   exact rest _ (by unfold medL mx; split <;> omega)
  ·simp only [if_neg h1]
   exact rest _ (by unfold medL mx; split <;> omega)
 ·simp only [h, if_false, if_neg (show ¬ (1 : Int) = 0 by omega)]; exact Ev.now _
def ChR (p l t d i : Int) : Int × Int × Int × Bool := if l = 6 then (0, 0, 0, false) else (l + 1, ofMt p (l + 1) (mk p t d + i * p ^ (l + 6).toNat), (ofMd p (l + 1) (mk p t d + i * p ^ (l + 6).toNat) : Int), true)
theorem child_ev {p l t d i : Int} (h : IsP p) (hb : Bal p l t d) (hi : 0 ≤ i ∧ i < p) : Ev (fun k => impl_child.f k p l t d i) (ChR p l t d i) := by
 unfold impl_child.f ChR
 have hr : -6 ≤ l ∧ l ≤ 6 ∧ 0 ≤ d ∧ d ≤ 6 := by unfold Bal at hb; omega
 have hs := mark_le h hb
 have h7 := h.le_seven
 have e1 : wrap64 (l + 6) = l + 6 := wrap_id (by omega) (by omega)
 have e2 : wrap64 (l + 1) = l + 1 := wrap_id (by omega) (by omega)
 have q0 := pow_pos' h (l + 6).toNat
 have q1 := pow_le_seven h (m := (l + 6).toNat) (n := 12) (by omega)
 have e12 : (7 : Int) ^ 12 = 13841287201 := by decide
 have m0 : 0 ≤ i * p ^ (l + 6).toNat := Int.mul_nonneg hi.1 (by omega)
 have m1 : i * p ^ (l + 6).toNat ≤ 7 * p ^ (l + 6).toNat := Int.mul_le_mul_of_nonneg_right (by omega) (by omega)
 have e3 : wrap64 (i * p ^ (l + 6).toNat) = i * p ^ (l + 6).toNat := wrap_id (by omega) (by omega)
 have e4 : wrap64 (mk p t d + i * p ^ (l + 6).toNat) = mk p t d + i * p ^ (l + 6).toNat := wrap_id (by omega) (by omega)
 simp only [e1, e2]
 rw [bnd (mark_ev h hb), bnd (power_ev h (by omega))]
 simp only [e3, e4]
 rw [bnd (ofMark_ev h (by omega))]
 by_cases hl : l = 6
 ·simp only [if_pos hl, if_neg (show ¬ (-6 ≤ l + 1 ∧ l + 1 ≤ 6) by omega)]; exact Ev.now _
 ·simp only [if_neg hl, if_pos (show -6 ≤ l + 1 ∧ l + 1 ≤ 6 by omega)]; exact Ev.now _
theorem pow_split {p : Int} {a b c : Nat} (h : a + b = c) : p ^ a * p ^ b = p ^ c := by rw [← Int.pow_add, h]
theorem l01Child_ev {p l t d i : Int} (h : IsP p) (hb : Bal p l t d) (hi : 0 ≤ i ∧ i < p) : Ev (fun k => spec_l01Child.f k p l t d i) (ChR p l t d i) := by
 unfold spec_l01Child.f ChR
 have hr : -6 ≤ l ∧ l ≤ 6 ∧ 0 ≤ d ∧ d ≤ 6 := by unfold Bal at hb; omega
 have ht := hb.small h
 have h7 := h.le_seven
 have e2 : wrap64 (l + 1) = l + 1 := wrap_id (by omega) (by omega)
 have en : wrap64 (-l) = -l := wrap_id (by omega) (by omega)
 have e6 : (7 : Int) ^ 6 = 117649 := by decide
 by_cases hl : l = 6
 ·simp only [if_pos hl]; exact Ev.now _
 simp only [if_neg hl, e2, en]
 have pd0 := pow_pos' h d.toNat
 have pd1 := pow_le_seven h (m := d.toNat) (n := 6) (by omega)
 rw [bnd (l01Power_ev h (by omega))]
 by_cases hn : l ≥ 0
 ·simp only [if_pos hn]
  rw [bnd (l01Power_ev h (by omega))]
  have pl0 := pow_pos' h l.toNat
  have pl1 := pow_le_seven h (m := l.toNat) (n := 6) (by omega)
  have m0 : 0 ≤ i * p ^ d.toNat := Int.mul_nonneg hi.1 (by omega)
  have m1 : i * p ^ d.toNat ≤ 7 * p ^ d.toNat := Int.mul_le_mul_of_nonneg_right (by omega) (by omega)
  have w1 : wrap64 (i * p ^ d.toNat) = i * p ^ d.toNat := wrap_id (by omega) (by omega)
  have m2 : 0 ≤ i * p ^ d.toNat * p ^ l.toNat := Int.mul_nonneg m0 (by omega)
  have m3 : i * p ^ d.toNat * p ^ l.toNat ≤ 823543 * 117649 := Int.mul_le_mul (by omega) (by omega) (by omega) (by omega)
  have w2 : wrap64 (i * p ^ d.toNat * p ^ l.toNat) = i * p ^ d.toNat * p ^ l.toNat := wrap_id (by omega) (by omega)
  have w3 : wrap64 (t + i * p ^ d.toNat * p ^ l.toNat) = t + i * p ^ d.toNat * p ^ l.toNat := wrap_id (by omega) (by omega)
  simp only [w1, w2, w3]
  rw [bnd (l01Of_pow h (by omega) (by omega))]
  have em : mk p (t + i * p ^ d.toNat * p ^ l.toNat) d = mk p t d + i * p ^ (l + 6).toNat := by
   unfold mk
   rw [Int.add_mul, Int.mul_assoc i, Int.mul_assoc i, Int.mul_assoc (p ^ d.toNat), Int.mul_comm (p ^ l.toNat), ← Int.mul_assoc (p ^ d.toNat), pow_split (show d.toNat + (6 - d).toNat = 6 by omega), pow_split (show 6 + l.toNat = (l + 6).toNat by omega)]
  rw [em]
  simp only [if_pos (show -6 ≤ l + 1 ∧ l + 1 ≤ 6 by omega)]
  exact Ev.now _
 ·simp only [if_neg hn]
  rw [bnd (l01Power_ev h (by omega))]
  simp only [if_neg (pow_ne' h _)]
  rw [bnd (l01Power_ev h (by omega))]
  simp only [if_neg (pow_ne' h _)]
  obtain ⟨e, he, h1, h2, h3⟩ : ∃ e : Nat, mx (p ^ d.toNat) (p ^ (-l).toNat) = p ^ e ∧ e ≤ 6 ∧ d.toNat ≤ e ∧ (-l).toNat ≤ e := by
   unfold mx
   by_cases hc : d.toNat ≤ (-l).toNat
   ·refine ⟨(-l).toNat, ?_, by omega, hc, Nat.le_refl _⟩
    have := pow_mono h hc
    split <;> first | rfl | omega
   ·refine ⟨d.toNat, ?_, by omega, Nat.le_refl _, by omega⟩
    have := pow_mono h (show (-l).toNat ≤ d.toNat by omega)
    split <;> first | rfl | omega
  have q1 : Int.tdiv (p ^ e) (p ^ d.toNat) = p ^ (e - d.toNat) := by
   rw [← pow_split (show d.toNat + (e - d.toNat) = e by omega)]; exact tdiv_mul_left (pow_ne' h _)
  have q2 : Int.tdiv (p ^ e) (p ^ (-l).toNat) = p ^ (e - (-l).toNat) := by
   rw [← pow_split (show (-l).toNat + (e - (-l).toNat) = e by omega)]; exact tdiv_mul_left (pow_ne' h _)
  have b0 := pow_pos' h (e - d.toNat)
  have b1 := pow_le_seven h (m := e - d.toNat) (n := 6) (by omega)
  have c0 := pow_pos' h (e - (-l).toNat)
  have c1 := pow_le_seven h (m := e - (-l).toNat) (n := 6) (by omega)
  have w1 : wrap64 (p ^ (e - d.toNat)) = p ^ (e - d.toNat) := wrap_id (by omega) (by omega)
  have w2 : wrap64 (p ^ (e - (-l).toNat)) = p ^ (e - (-l).toNat) := wrap_id (by omega) (by omega)
  have m0 : 0 ≤ t * p ^ (e - d.toNat) := Int.mul_nonneg ht.1 (by omega)
  have m1 : t * p ^ (e - d.toNat) ≤ 13841287201 * 117649 := Int.mul_le_mul ht.2 (by omega) (by omega) (by omega)
  have m2 : 0 ≤ i * p ^ (e - (-l).toNat) := Int.mul_nonneg hi.1 (by omega)
  have m3 : i * p ^ (e - (-l).toNat) ≤ 7 * 117649 := Int.mul_le_mul (by omega) (by omega) (by omega) (by omega)
  have w3 : wrap64 (t * p ^ (e - d.toNat)) = t * p ^ (e - d.toNat) := wrap_id (by omega) (by omega)
  have w4 : wrap64 (i * p ^ (e - (-l).toNat)) = i * p ^ (e - (-l).toNat) := wrap_id (by omega) (by omega)
  have w5 : wrap64 (t * p ^ (e - d.toNat) + i * p ^ (e - (-l).toNat)) = t * p ^ (e - d.toNat) + i * p ^ (e - (-l).toNat) := wrap_id (by omega) (by omega)
  simp only [he, q1, q2, w1, w2, w3, w4, w5]
  have hof := l01Of_pow (p := p) (t := t * p ^ (e - d.toNat) + i * p ^ (e - (-l).toNat)) (d := (e : Int)) (level := l + 1) h (by omega) (by omega)
  rw [Int.toNat_natCast] at hof
  rw [bnd hof]
  have em : mk p (t * p ^ (e - d.toNat) + i * p ^ (e - (-l).toNat)) (e : Int) = mk p t d + i * p ^ (l + 6).toNat := by
   unfold mk
   rw [Int.add_mul, Int.mul_assoc, Int.mul_assoc, pow_split (show e - d.toNat + (6 - (e : Int)).toNat = (6 - d).toNat by omega), pow_split (show e - (-l).toNat + (6 - (e : Int)).toNat = (l + 6).toNat by omega)]
  rw [em]
  simp only [if_pos (show -6 ≤ l + 1 ∧ l + 1 ≤ 6 by omega)]
  exact Ev.now _
def kids (p l t d : Int) (i : Nat) : Nat → List S27
 | 0 => []
 | n + 1 => ⟨(ChR p l t d i).1, (ChR p l t d i).2.1, (ChR p l t d i).2.2.1⟩ :: kids p l t d (i + 1) n
theorem kids_length (p l t d : Int) (n : Nat) : ∀ i, (kids p l t d i n).length = n := by
 induction n with
 | zero => intro i; rfl
 | succ n ih => intro i; rw [show kids p l t d i (n + 1) = _ :: kids p l t d (i + 1) n from rfl, List.length_cons, ih]
theorem ChR_no (p t d i : Int) : ChR p 6 t d i = (0, 0, 0, false) := if_pos rfl
theorem ChR_ok {p l t d i : Int} (hl : l ≠ 6) : (ChR p l t d i).2.2.2 = true := by unfold ChR; rw [if_neg hl]
theorem neighbour_ev {p l t d : Int} (h : IsP p) (hb : Bal p l t d) (i : Nat) (hi : (i : Int) < p) : Ev (fun k => impl_neighbour.f k p l t d ((i : Int) + 1)) (ChR p l t d i) := by
 unfold impl_neighbour.f
 have h7 := h.le_seven
 have e : wrap64 ((i : Int) + 1 - 1) = i := by rw [wrap_id (by omega) (by omega)]; omega
 simp only [if_neg (show ¬ (i : Int) + 1 = 0 by omega), e]
 rw [bnd (child_ev h hb (by omega))]
 exact Ev.now _
theorem neighbour0_ev {p l t d : Int} (h : IsP p) (hb : Bal p l t d) : Ev (fun k => impl_neighbour.f k p l t d 0) (ParR p l t d) := by
 unfold impl_neighbour.f
 simp only [if_true]
 rw [bnd (parent_ev h hb)]
 exact Ev.now _
theorem some_l {p l t d : Int} (h : IsP p) (hb : Bal p l t d) (hl : l ≠ 6) : ∀ (n i : Nat) (acc : List S27), (i : Int) + n = p → acc.length + n ≤ 1000 → Ev (fun k => impl_someNeighbours.l0 k p acc ((i : Int) + 1) l t d) (acc ++ kids p l t d i n, true) := by
 have h7 := h.le_seven
 intro n
 induction n with
 | zero =>
  intro i acc hi ha
  refine Ev.step (fun k => by rw [impl_someNeighbours.l0]) ?_
  simp only [if_neg (show ¬ (i : Int) + 1 ≤ p by omega)]
  exact ev_some (by rw [show kids p l t d i 0 = [] from rfl, List.append_nil])
 | succ n ih =>
  intro i acc hi ha
  refine Ev.step (fun k => by rw [impl_someNeighbours.l0]) ?_
  have hlt : acc.length < 5864062014805 := Nat.lt_of_le_of_lt (Nat.le_trans (Nat.le_add_right _ _) ha) (by omega)
  have e : wrap64 ((i : Int) + 1 + 1) = ((i + 1 : Nat) : Int) + 1 := by rw [wrap_id (by omega) (by omega)]; omega
  simp only [if_pos (show (i : Int) + 1 ≤ p by omega)]
  rw [bnd (neighbour_ev h hb i (by omega))]
  simp only [ChR_ok hl, if_true, if_pos hlt, e]
  have hx := ih (i + 1) (acc ++ [⟨(ChR p l t d i).1, (ChR p l t d i).2.1, (ChR p l t d i).2.2.1⟩]) (by omega) (by rw [List.length_append, List.length_singleton]; omega)
  rw [List.append_assoc] at hx
  exact hx
theorem kids_l {p l t d : Int} (h : IsP p) (hb : Bal p l t d) (hl : l ≠ 6) : ∀ (n i : Nat) (acc : List S27), (i : Int) + n = p → acc.length + n ≤ 1000 → Ev (fun k => spec_l02Children.l0 k p acc i l t d) (acc ++ kids p l t d i n, true) := by
 have h7 := h.le_seven
 intro n
 induction n with
 | zero =>
  intro i acc hi ha
  refine Ev.step (fun k => by rw [spec_l02Children.l0]) ?_
  simp only [if_neg (show ¬ (i : Int) < p by omega)]
  exact ev_some (by rw [show kids p l t d i 0 = [] from rfl, List.append_nil])
 | succ n ih =>
  intro i acc hi ha
  refine Ev.step (fun k => by rw [spec_l02Children.l0]) ?_
  have hlt : acc.length < 5864062014805 := Nat.lt_of_le_of_lt (Nat.le_trans (Nat.le_add_right _ _) ha) (by omega)
  have e : wrap64 ((i : Int) + 1) = ((i + 1 : Nat) : Int) := by rw [wrap_id (by omega) (by omega)]; omega
  simp only [if_pos (show (i : Int) < p by omega)]
  rw [bnd (l01Child_ev h hb (by omega))]
  simp only [ChR_ok hl, if_true, if_pos hlt, e]
  have hx := ih (i + 1) (acc ++ [⟨(ChR p l t d i).1, (ChR p l t d i).2.1, (ChR p l t d i).2.2.1⟩]) (by omega) (by rw [List.length_append, List.length_singleton]; omega)
  rw [List.append_assoc] at hx
  exact hx
def KidsR (p l t d : Int) : List S27 × Bool := if l = 6 then ([], false) else (kids p l t d 0 p.toNat, true)
theorem l02Children_ev {p l t d : Int} (h : IsP p) (hb : Bal p l t d) : Ev (fun k => spec_l02Children.f k p l t d) (KidsR p l t d) := by
 unfold spec_l02Children.f KidsR
 have h2 := h.two_le
 have h7 := h.le_seven
 by_cases hl : l = 6
 ·subst hl
  refine Ev.step (fun k => by rw [spec_l02Children.l0]) ?_
  simp only [if_pos (show (0 : Int) < p by omega), if_true]
  rw [bnd (l01Child_ev h hb (show (0 : Int) ≤ 0 ∧ (0 : Int) < p by omega))]
  simp only [ChR_no, if_neg Bool.false_ne_true]
  exact Ev.now _
 ·rw [if_neg hl]
  exact kids_l h hb hl p.toNat 0 [] (by omega) (by simp only [List.length_nil]; omega)
def parL (p l t d : Int) : S27 := ⟨(ParR p l t d).1, (ParR p l t d).2.1, (ParR p l t d).2.2.1⟩
def NearR (p l t d : Int) : List S27 × Bool := if (ParR p l t d).2.2.2 = true ∧ l ≠ 6 then (parL p l t d :: kids p l t d 0 p.toNat, true) else ([], false)
theorem someNear_ev {p l t d : Int} (h : IsP p) (hb : Bal p l t d) : Ev (fun k => impl_someNeighbours.f k p l t d 0) (NearR p l t d) := by
 unfold impl_someNeighbours.f NearR
 have h2 := h.two_le
 have h7 := h.le_seven
 refine Ev.step (fun k => by rw [impl_someNeighbours.l0]) ?_
 simp only [if_pos (show (0 : Int) ≤ p by omega)]
 rw [bnd (neighbour0_ev h hb)]
 by_cases hp : (ParR p l t d).2.2.2 = true
 ·have e : wrap64 ((0 : Int) + 1) = 1 := wrap_id (by omega) (by omega)
  have hlt : ([] : List S27).length < 5864062014805 := by rw [List.length_nil]; omega
  simp only [if_pos hp, if_pos hlt, e, List.nil_append]
  by_cases hl : l = 6
  ·subst hl
   simp only [hp, ne_eq, not_true_eq_false, and_false, if_false]
   refine Ev.step (fun k => by rw [impl_someNeighbours.l0]) ?_
   simp only [if_pos (show (1 : Int) ≤ p by omega)]
   have e := neighbour_ev h hb 0 (by omega)
   rw [show ((0 : Nat) : Int) + 1 = 1 from rfl] at e
   rw [bnd e]
   simp only [ChR_no, if_neg Bool.false_ne_true]
   exact Ev.now _
  ·rw [if_pos (⟨hp, hl⟩ : (ParR p l t d).2.2.2 = true ∧ l ≠ 6)]
   exact some_l h hb hl p.toNat 0 [parL p l t d] (by omega) (by rw [List.length_singleton]; omega)
 ·have hn : ¬ ((ParR p l t d).2.2.2 = true ∧ l ≠ 6) := fun hz => hp hz.1
  simp only [if_neg hp, if_neg hn]
  exact Ev.now _
theorem join_least {p l t d l' t' d' : Int} (hb : Bal p l t d) (hb' : Bal p l' t' d') : -6 ≤ joinL p l t d l' t' d' ∧ joinL p l t d l' t' d' ≤ l ∧ joinL p l t d l' t' d' ≤ l' := by
 have h1 := joinL_le (p := p) (la := l) (ta := t) (da := d) (lb := l') (tb := t') (db := d')
 have h2 := joinL_range hb hb'
 omega
def Src (l : List Int) (at_ : Int) : Prop := (∀ x ∈ l, 0 ≤ x ∧ x ≤ 255) ∧ 0 ≤ at_ ∧ at_ ≤ l.length ∧ l.length ≤ 4097
theorem mask34 {x : Int} (h0 : 0 ≤ x) (h1 : x < 18446744073709551616) : Go.bits .and .u64 x 17179869183 = x % 17179869184 := by
 have := bits_mask .u64 64 (by decide) wraps_u64 34 (by decide) x h0 (by simpa using h1)
 simpa using this
theorem rd_mem {l : List Int} {i : Int} (h0 : 0 ≤ i) (h1 : i < l.length) : rd l i ∈ l := by
 unfold rd
 rw [List.getD_eq_getElem?_getD, List.getElem?_eq_getElem (by omega)]
 exact List.getElem_mem _
theorem tmod_in {x n : Int} (h0 : 0 ≤ x) (h1 : 1 ≤ n) : 0 ≤ Int.tmod x n ∧ Int.tmod x n < n := by
 rw [Int.tmod_eq_emod_of_nonneg h0]
 exact ⟨Int.emod_nonneg _ (by omega), Int.emod_lt_of_pos _ (by omega)⟩
theorem next_eq {l : List Int} {c h n : Int} (hs : Src l c) (hn : 1 ≤ n) : ∃ x c' h', spec_l01Next.f l c h n = some (x, c', h') ∧ (0 ≤ x ∧ x < n) ∧ Src l c' := by
 obtain ⟨hb, c0, c1, hl⟩ := hs
 unfold spec_l01Next.f
 simp only [if_neg (show ¬ n < 1 by omega), if_neg (show ¬ n = 0 by omega)]
 have hw : ∀ y : Int, (0 ≤ IntKind.u64.wrap y / 8388608) ∧ IntKind.u64.wrap y / 8388608 < 18446744073709551616 := fun y => by rw [wrapu]; omega
 rw [mask34 (hw _).1 (hw _).2]
 generalize IntKind.u64.wrap (IntKind.u64.wrap (h * 6364136223846793005) + 1442695040888963407) = H
 have hm : 0 ≤ H / 8388608 % 17179869184 ∧ H / 8388608 % 17179869184 < 17179869184 := by omega
 generalize H / 8388608 % 17179869184 = y at *
 rw [wrap_id (x := y) (by omega) (by omega)]
 by_cases hc : c < (l.length : Int)
 ·have hr := hb _ (rd_mem c0 hc)
  simp only [if_pos hc, if_pos c0]
  rw [wrap_id (x := rd l c) (by omega) (by omega), wrap_id (x := y + rd l c) (by omega) (by omega), wrap_id (x := c + 1) (by omega) (by omega)]
  exact ⟨_, _, _, rfl, tmod_in (by omega) hn, hb, by omega, by omega, hl⟩
 ·simp only [if_neg hc]
  exact ⟨_, _, _, rfl, tmod_in (by omega) hn, hb, c0, c1, hl⟩
theorem pick_eq {l : List Int} {c h : Int} {xs : List Int} (hs : Src l c) (hx : 1 ≤ xs.length) (hx' : xs.length ≤ 1000) : ∃ x c' h', spec_l01Pick.f l c h xs = some (x, c', h') ∧ x ∈ xs ∧ Src l c' := by
 unfold spec_l01Pick.f
 obtain ⟨x, c', h', e, hr, hs'⟩ := next_eq (h := h) hs (show 1 ≤ (xs.length : Int) by omega)
 rw [e]
 simp only [Option.bind_some, if_pos hr.1, if_pos hr.2]
 exact ⟨_, _, _, rfl, rd_mem hr.1 hr.2, hs'⟩
theorem from_l {l : List Int} : ∀ (d i : Nat) (h : Int), i + d = l.length → ∃ h', Ev (fun k => spec_l01From.l0 k l i l 0 h) (l, 0, h') := by
 intro d
 induction d with
 | zero =>
  intro i h hi
  refine ⟨h, Ev.step (fun k => by rw [spec_l01From.l0]) ?_⟩
  simp only [if_neg (show ¬ (i : Int) < (l.length : Int) by omega)]
  exact Ev.now _
 | succ d ih =>
  intro i h hi
  by_cases h4 : (i : Int) < 4096
  ·obtain ⟨h', e⟩ := ih (i + 1) (IntKind.u64.wrap ((IntKind.u64.wrap ((IntKind.u64.wrap (h * 1099511628211)) + (IntKind.u64.wrap (rd l i)))) + 71)) (by omega)
   refine ⟨h', Ev.step (fun k => by rw [spec_l01From.l0]) ?_⟩
   simp only [if_pos (show (i : Int) < (l.length : Int) by omega), if_pos h4, if_pos (show (0 : Int) ≤ i by omega)]
   rw [wrap_id (x := (i : Int) + 1) (by omega) (by omega)]
   exact e
  ·refine ⟨h, Ev.step (fun k => by rw [spec_l01From.l0]) ?_⟩
   simp only [if_pos (show (i : Int) < (l.length : Int) by omega), if_neg h4]
   exact Ev.now _
theorem from_ev {l : List Int} (hb : ∀ x ∈ l, (Lit.int .u8 x).wf = true) (hl : l.length ≤ 4097) : ∃ h, Ev (fun k => spec_l01From.f k l) (l, 0, h) ∧ Src l 0 := by
 obtain ⟨h, e⟩ := from_l (l := l) l.length 0 (IntKind.u64.wrap (12527 + (IntKind.u64.wrap ((l.length : Int))))) (by omega)
 refine ⟨h, e, fun x hx => ?_, by omega, by omega, hl⟩
 have := hb x hx
 simp [Lit.wf, IntKind.min, IntKind.max, IntKind.signed, IntKind.bits] at this; omega
def Sm (x : Int) : Prop := -4000000000000 ≤ x ∧ x ≤ 4000000000000
def SmB (l t d : Int) : Prop := Sm l ∧ Sm t ∧ Sm d
theorem Bal.sm {p l t d : Int} (hp : IsP p) (h : Bal p l t d) : (-6 ≤ l ∧ l ≤ 6) ∧ (0 ≤ t ∧ t ≤ 13841287201) ∧ 0 ≤ d ∧ d ≤ 6 := by
 have h1 := h.small hp
 unfold Bal at h
 split at h <;> omega
theorem Bal.zero {p l : Int} (hp : IsP p) (h : -6 ≤ l ∧ l ≤ 6) : Bal p l 0 0 := by
 by_cases hl : l + 0 ≤ 0
 ·rw [Bal_low hl]; omega
 ·rw [Bal_high hl]
  have := pow_pos' hp (l + 0).toNat
  exact ⟨h.1, h.2, by omega, by omega, by omega, this, .inl rfl⟩
theorem drawBall_ev {l : List Int} {c h p : Int} (hp : IsP p) (hs : Src l c) : ∃ lv t d c' h', Ev (fun k => spec_l01Draw.f k l c h p) (lv, t, d, c', h') ∧ Bal p lv t d ∧ Src l c' := by
 unfold spec_l01Draw.f
 obtain ⟨x1, c1, h1, e1, r1, s1⟩ := next_eq (h := h) hs (show (1 : Int) ≤ 13 by omega)
 obtain ⟨lv, c2, h2, e2, r2, s2⟩ := pick_eq (h := h1) (xs := [0, 1, 2, 3, wrap64 (x1 - 6)]) s1 (by simp) (by simp)
 obtain ⟨x3, c3, h3, e3, r3, s3⟩ := next_eq (h := h2) s2 (show (1 : Int) ≤ 6 by omega)
 have hlv : -6 ≤ lv ∧ lv ≤ 6 := by
  rw [wrap_id (x := x1 - 6) (by omega) (by omega)] at r2
  simp only [List.mem_cons, List.not_mem_nil, or_false] at r2; omega
 simp only [e1, e2, e3, Option.bind_some]
 by_cases h0 : x3 = 0
 ·simp only [if_pos h0]
  exact ⟨_, _, _, _, _, Ev.now _, Bal.zero hp hlv, s3⟩
 ·simp only [if_neg h0]
  obtain ⟨x4, c4, h4, e4, r4, s4⟩ := next_eq (h := h3) s3 (show (1 : Int) ≤ 20 by omega)
  obtain ⟨x5, c5, h5, e5, r5, s5⟩ := next_eq (h := h4) s4 (show (1 : Int) ≤ 2000000 by omega)
  obtain ⟨nm, c6, h6, e6, r6, s6⟩ := pick_eq (h := h5) (xs := [wrap64 (x4 - 10), wrap64 (x5 - 1000000)]) s5 (by simp) (by simp)
  obtain ⟨x7, c7, h7, e7, r7, s7⟩ := next_eq (h := h6) s6 (show (1 : Int) ≤ 7 by omega)
  obtain ⟨ex, c8, h8, e8, r8, s8⟩ := pick_eq (h := h7) (xs := [0, 0, 1, 2, x7]) s7 (by simp) (by simp)
  have hnm : -1000000 ≤ nm ∧ nm ≤ 1000000 := by
   rw [wrap_id (x := x4 - 10) (by omega) (by omega), wrap_id (x := x5 - 1000000) (by omega) (by omega)] at r6
   simp only [List.mem_cons, List.not_mem_nil, or_false] at r6; omega
  have hex : 0 ≤ ex ∧ ex ≤ 6 := by
   simp only [List.mem_cons, List.not_mem_nil, or_false] at r8; omega
  simp only [e4, e5, e6, e7, e8, Option.bind_some]
  have hof := l01Of_pow (t := nm) (level := lv) hp hex (by omega)
  rw [if_pos hlv] at hof
  refine ⟨lv, ofMt p lv (mk p nm ex), (ofMd p lv (mk p nm ex) : Int), c8, h8, ?_, ofM_bal hp hlv.1 hlv.2 _, s8⟩
  rw [bnd (l01Power_ev hp (show ex ≤ 22 by omega)), bnd hof]
  simp only [if_true]
  exact Ev.now _
theorem bad_eq {l : List Int} {c h lv t d : Int} (hs : Src l c) (hb : (-6 ≤ lv ∧ lv ≤ 6) ∧ (0 ≤ t ∧ t ≤ 13841287201) ∧ 0 ≤ d ∧ d ≤ 6) : ∃ lv' t' d' c' h', spec_l01Bad.f l c h lv t d = some (lv', t', d', c', h') ∧ SmB lv' t' d' ∧ Src l c' := by
 unfold spec_l01Bad.f SmB Sm
 obtain ⟨x1, c1, h1, e1, r1, s1⟩ := next_eq (h := h) hs (show (1 : Int) ≤ 40 by omega)
 simp only [e1, Option.bind_some]
 by_cases z0 : x1 = 0
 ·obtain ⟨y, c2, h2, e2, r2, s2⟩ := pick_eq (h := h1) (xs := [-7, 7, wrap64 (lv - 1), 1099511627776]) s1 (by simp) (by simp)
  simp only [if_pos z0, e2, Option.bind_some]
  rw [wrap_id (x := lv - 1) (by omega) (by omega)] at r2
  simp only [List.mem_cons, List.not_mem_nil, or_false] at r2
  exact ⟨_, _, _, _, _, rfl, by omega, s2⟩
 ·simp only [if_neg z0]
  by_cases z1 : x1 = 1
  ·obtain ⟨y, c2, h2, e2, r2, s2⟩ := pick_eq (h := h1) (xs := [-1, wrap64 (t * 7), 1099511627776]) s1 (by simp) (by simp)
   simp only [if_pos z1, e2, Option.bind_some]
   rw [wrap_id (x := t * 7) (by omega) (by omega)] at r2
   simp only [List.mem_cons, List.not_mem_nil, or_false] at r2
   exact ⟨_, _, _, _, _, rfl, by omega, s2⟩
  ·simp only [if_neg z1]
   by_cases z2 : x1 = 2
   ·obtain ⟨y, c2, h2, e2, r2, s2⟩ := pick_eq (h := h1) (xs := [-1, wrap64 (d + 1), 7]) s1 (by simp) (by simp)
    simp only [if_pos z2, e2, Option.bind_some]
    rw [wrap_id (x := d + 1) (by omega) (by omega)] at r2
    simp only [List.mem_cons, List.not_mem_nil, or_false] at r2
    exact ⟨_, _, _, _, _, rfl, by omega, s2⟩
   ·simp only [if_neg z2]
    exact ⟨_, _, _, _, _, rfl, by omega, s1⟩
theorem prime_eq {l : List Int} {c h : Int} (hs : Src l c) : ∃ p c' h', spec_l01DrawPrime.f l c h = some (p, c', h') ∧ IsP p ∧ Src l c' := by
 unfold spec_l01DrawPrime.f
 obtain ⟨p, c1, h1, e1, r1, s1⟩ := pick_eq (h := h) (xs := [2, 2, 3, 3, 5, 7]) hs (by simp) (by simp)
 simp only [e1, Option.bind_some]
 refine ⟨_, _, _, rfl, ?_, s1⟩
 simp only [List.mem_cons, List.not_mem_nil, or_false] at r1
 unfold IsP; omega
theorem spoil_ev {l : List Int} {c h : Int} (hs : Src l c) : ∃ p lv t d c' h', Ev (fun k => spec_l01Spoil.f k l c h) (p, lv, t, d, c', h') ∧ Sm p ∧ SmB lv t d ∧ Src l c' := by
 unfold spec_l01Spoil.f
 obtain ⟨p, c1, h1, e1, r1, s1⟩ := prime_eq (h := h) hs
 obtain ⟨lv, t, d, c2, h2, e2, r2, s2⟩ := drawBall_ev (h := h1) r1 s1
 obtain ⟨lv', t', d', c3, h3, e3, r3, s3⟩ := bad_eq (h := h2) s2 (Bal.sm r1 r2)
 obtain ⟨x4, c4, h4, e4, r4, s4⟩ := next_eq (h := h3) s3 (show (1 : Int) ≤ 40 by omega)
 by_cases z : x4 = 0
 ·obtain ⟨q, c5, h5, e5, r5, s5⟩ := pick_eq (h := h4) (xs := [0, 1, 4, 11, -3]) s4 (by simp) (by simp)
  refine ⟨q, lv', t', d', c5, h5, ?_, ?_, r3, s5⟩
  ·simp only [e1, Option.bind_some]
   rw [bnd e2]
   simp only [e3, e4, Option.bind_some, if_pos z, e5]
   exact Ev.now _
  ·simp only [List.mem_cons, List.not_mem_nil, or_false] at r5
   unfold Sm; omega
 ·refine ⟨p, lv', t', d', c4, h4, ?_, ?_, r3, s4⟩
  ·simp only [e1, Option.bind_some]
   rw [bnd e2]
   simp only [e3, e4, Option.bind_some, if_neg z]
   exact Ev.now _
  ·have := r1.two_le; have := r1.le_seven; unfold Sm; omega
theorem kid_dvd {p l t d i : Int} (h : IsP p) (hb : Bal p l t d) : p ^ (l + 6).toNat ∣ mk p (ofMt p (l + 1) (mk p t d + i * p ^ (l + 6).toNat)) (ofMd p (l + 1) (mk p t d + i * p ^ (l + 6).toNat)) - mk p t d := by
 have hr := Bal.sm h hb
 rw [ofM_mark h]
 have h1 := dvd_emod_sub (mk p t d + i * p ^ (l + 6).toNat) (p ^ (l + 1 + 6).toNat)
 have h2 : p ^ (l + 6).toNat ∣ p ^ (l + 1 + 6).toNat := pow_dvd (by omega)
 have h3 := Int.dvd_trans h2 h1
 have h4 : p ^ (l + 6).toNat ∣ i * p ^ (l + 6).toNat := ⟨i, Int.mul_comm _ _⟩
 have h5 := Int.dvd_add h3 h4
 rwa [show (mk p t d + i * p ^ (l + 6).toNat) % p ^ (l + 1 + 6).toNat - (mk p t d + i * p ^ (l + 6).toNat) + i * p ^ (l + 6).toNat = (mk p t d + i * p ^ (l + 6).toNat) % p ^ (l + 1 + 6).toNat - mk p t d by omega] at h5
theorem par_dvd {p l t d : Int} (h : IsP p) (hb : Bal p l t d) : p ^ (l - 1 + 6).toNat ∣ mk p t d - mk p (ofMt p (l - 1) (mk p t d)) (ofMd p (l - 1) (mk p t d)) := by
 rw [ofM_mark h]
 have h1 := Int.dvd_neg.2 (dvd_emod_sub (mk p t d) (p ^ (l - 1 + 6).toNat))
 rwa [show -(mk p t d % p ^ (l - 1 + 6).toNat - mk p t d) = mk p t d - mk p t d % p ^ (l - 1 + 6).toNat by omega] at h1
theorem mem_kids {p l t d : Int} {c : S27} : ∀ (n i : Nat), c ∈ kids p l t d i n → ∃ j : Int, c = ⟨(ChR p l t d j).1, (ChR p l t d j).2.1, (ChR p l t d j).2.2.1⟩ := by
 intro n
 induction n with
 | zero => intro i hc; simp [kids] at hc
 | succ n ih =>
  intro i hc
  rw [kids] at hc
  rcases List.mem_cons.1 hc with hc | hc
  ·exact ⟨i, hc⟩
  ·exact ih _ hc
def KidOf (p l t d : Int) (c : S27) : Prop := Bal p c.f0 c.f1 c.f2 ∧ c.f0 = l + 1 ∧ p ^ (l + 6).toNat ∣ mk p c.f1 c.f2 - mk p t d
theorem kidOf {p l t d : Int} (h : IsP p) (hb : Bal p l t d) (hl : l ≠ 6) {c : S27} {n i : Nat} (hc : c ∈ kids p l t d i n) : KidOf p l t d c := by
 have hr := Bal.sm h hb
 obtain ⟨j, rfl⟩ := mem_kids n i hc
 unfold ChR
 rw [if_neg hl]
 exact ⟨ofM_bal h (show -6 ≤ l + 1 by omega) (show l + 1 ≤ 6 by omega) _, rfl, kid_dvd h hb⟩
def ParOf (p l t d : Int) (c : S27) : Prop := Bal p c.f0 c.f1 c.f2 ∧ c.f0 = l - 1 ∧ p ^ (l - 1 + 6).toNat ∣ mk p t d - mk p c.f1 c.f2
theorem parOf {p l t d : Int} (h : IsP p) (hb : Bal p l t d) (hl : (ParR p l t d).2.2.2 = true) : ParOf p l t d ⟨(ParR p l t d).1, (ParR p l t d).2.1, (ParR p l t d).2.2.1⟩ := by
 unfold ParR at hl ⊢
 by_cases hz : -6 ≤ l - 1 ∧ l - 1 ≤ 6
 ·rw [if_pos hz]
  exact ⟨ofM_bal h hz.1 hz.2 _, rfl, par_dvd h hb⟩
 ·rw [if_neg hz] at hl
  exact absurd hl (by simp)
theorem balls9_l (l : List S27) (hl : l.length ≤ 1000000) : ∀ d i : Nat, i + d = l.length → Ev (fun k => laws_balls9.l0 k l l i) true := by
 intro d
 induction d with
 | zero =>
  intro i hi
  refine Ev.step (fun k => by rw [laws_balls9.l0]) ?_
  simp only [if_neg (show ¬ (i : Int) < (l.length : Int) by omega)]
  exact Ev.now _
 | succ d ih =>
  intro i hi
  refine Ev.step (fun k => by rw [laws_balls9.l0]) ?_
  simp only [if_pos (show (i : Int) < (l.length : Int) by omega), if_pos (show (0 : Int) ≤ i by omega), beq_self_eq_true, Bool.not_true, Bool.or_self, if_neg Bool.false_ne_true]
  rw [wrap_id (x := (i : Int) + 1) (by omega) (by omega)]
  exact ih (i + 1) (by omega)
theorem balls9_ev (l : List S27) (hl : l.length ≤ 1000000) : Ev (fun k => laws_balls9.f k l l) true := by
 unfold laws_balls9.f
 simp only [if_true]
 exact balls9_l l hl l.length 0 (by omega)
theorem nearAny_ev {p l t d : Int} (h : IsP p) (hb : Bal p l t d) : ∃ xs : List S27 × Bool, Ev (fun k => spec_l02Near.f k p l t d) xs ∧ (xs.2 = true → (xs.1.length : Int) = p + 1 ∧ ∀ c ∈ xs.1, Bal p c.f0 c.f1 c.f2) := by
 have h7 := h.le_seven
 have h2 := h.two_le
 have hlen : (KidsR p l t d).1.length ≤ 7 := by
  unfold KidsR
  by_cases hl : l = 6
  ·simp only [if_pos hl, List.length_nil]; omega
  ·simp only [if_neg hl, kids_length]; omega
 have hlt : [parL p l t d].length + (KidsR p l t d).1.length < 5864062014805 := by rw [List.length_singleton]; omega
 refine ⟨if (ParR p l t d).2.2.2 = true then (parL p l t d :: (KidsR p l t d).1, (KidsR p l t d).2) else (parL p l t d :: (KidsR p l t d).1, false), ?_, ?_⟩
 ·unfold spec_l02Near.f
  rw [bnd (l01Parent_ev h hb), bnd (l02Children_ev h hb)]
  have hlt' : [(⟨(ParR p l t d).1, (ParR p l t d).2.1, (ParR p l t d).2.2.1⟩ : S27)].length + (KidsR p l t d).1.length < 5864062014805 := hlt
  simp only [Option.bind_some]
  simp only [if_pos hlt']
  by_cases hp : (ParR p l t d).2.2.2 = true
  ·simp only [if_pos hp]; exact Ev.now _
  ·simp only [if_neg hp]; exact Ev.now _
 ·by_cases hp : (ParR p l t d).2.2.2 = true
  ·rw [if_pos hp]
   intro hk
   unfold KidsR at hk ⊢
   by_cases hl : l = 6
   ·rw [if_pos hl] at hk
    exact absurd hk (by simp)
   ·rw [if_neg hl]
    refine ⟨by rw [List.length_cons, kids_length]; omega, ?_⟩
    intro c hc
    rcases List.mem_cons.1 hc with rfl | hc
    ·exact (parOf h hb hp).1
    ·exact (kidOf h hb hl hc).1
  ·rw [if_neg hp]
   intro hk; exact absurd hk (by simp)
theorem rdB_mem {l : List S27} {i : Int} (h0 : 0 ≤ i) (h1 : i < l.length) : rd_T27 l i ∈ l := by
 unfold rd_T27
 rw [List.getD_eq_getElem?_getD, List.getElem?_eq_getElem (by omega)]
 exact List.getElem_mem _
theorem fine_eq (p : Int) : spec_l02Fine.f p = some (if IsP p then p else 3) := by
 unfold spec_l02Fine.f
 rw [l01Prime_eq]
 simp only [Option.bind_some]
 by_cases h : IsP p
 ·simp only [decide_eq_true h, if_true, if_pos h]
 ·simp only [decide_eq_false h, if_neg Bool.false_ne_true, if_neg h]
theorem fine_ok (p : Int) : IsP (if IsP p then p else 3) := by
 by_cases h : IsP p
 ·rw [if_pos h]; exact h
 ·rw [if_neg h]; unfold IsP; omega
theorem two_l0 {l : List Int} {p a0 a1 a2 : Int} (hp : IsP p) : ∀ (n : Nat) (c h lv t d : Int), n ≤ 10 → Src l c → Bal p lv t d → ∃ lv' t' d' c' h', Ev (fun k => spec_l02Two.l0 k p n l c h a0 a1 a2 lv t d) (p, a0, a1, a2, lv', t', d', c', h') ∧ SmB lv' t' d' ∧ Src l c' := by
 intro n
 have h2 := hp.two_le
 have h7 := hp.le_seven
 induction n with
 | zero =>
  intro c h lv t d hn hs hb
  obtain ⟨lv', t', d', c', h', e, r, s⟩ := bad_eq (h := h) hs (Bal.sm hp hb)
  refine ⟨lv', t', d', c', h', Ev.step (fun k => by rw [spec_l02Two.l0]) ?_, r, s⟩
  simp only [if_neg (show ¬ ((0 : Nat) : Int) > 0 by omega), e, Option.bind_some]
  exact Ev.now _
 | succ n ih =>
  intro c h lv t d hn hs hb
  obtain ⟨xs, ex, hx⟩ := nearAny_ev hp hb
  by_cases hk : xs.2 = true
  ·obtain ⟨x1, c1, h1, e1, r1, s1⟩ := next_eq (h := h) hs (show (1 : Int) ≤ p + 1 by omega)
   obtain ⟨hl, hm⟩ := hx hk
   have hb' := hm _ (rdB_mem (l := xs.1) r1.1 (by omega))
   obtain ⟨lv', t', d', c', h', e, r, s⟩ := ih c1 h1 _ _ _ (by omega) s1 hb'
   refine ⟨lv', t', d', c', h', Ev.step (fun k => by rw [spec_l02Two.l0]) ?_, r, s⟩
   simp only [if_pos (show ((n + 1 : Nat) : Int) > 0 by omega)]
   rw [bnd ex, wrap_id (x := p + 1) (by omega) (by omega)]
   simp only [if_pos hk, e1, Option.bind_some, if_pos r1.1, if_pos (show x1 < (xs.1.length : Int) by omega)]
   rw [show wrap64 (((n + 1 : Nat) : Int) - 1) = (n : Int) by rw [wrap_id (by omega) (by omega)]; omega]
   exact e
  ·obtain ⟨lv', t', d', c', h', e, r, s⟩ := ih c h lv t d (by omega) hs hb
   refine ⟨lv', t', d', c', h', Ev.step (fun k => by rw [spec_l02Two.l0]) ?_, r, s⟩
   simp only [if_pos (show ((n + 1 : Nat) : Int) > 0 by omega)]
   rw [bnd ex]
   simp only [if_neg hk]
   rw [show wrap64 (((n + 1 : Nat) : Int) - 1) = (n : Int) by rw [wrap_id (by omega) (by omega)]; omega]
   exact e
theorem two_ev {l : List Int} {c h : Int} (hs : Src l c) : ∃ p a0 a1 a2 lv t d c' h', Ev (fun k => spec_l02Two.f k l c h) (p, a0, a1, a2, lv, t, d, c', h') ∧ Sm p ∧ SmB a0 a1 a2 ∧ SmB lv t d ∧ Src l c' := by
 unfold spec_l02Two.f
 obtain ⟨p, a0, a1, a2, c1, h1, e1, r1, w1, s1⟩ := spoil_ev (h := h) hs
 obtain ⟨lv, t, d, c2, h2, e2, r2, s2⟩ := drawBall_ev (h := h1) (fine_ok p) s1
 have no : ∀ c h, Src l c → ∃ lv' t' d' c' h', Ev (fun k => spec_l02Two.j0 k p false l c h a0 a1 a2 lv t d) (p, a0, a1, a2, lv', t', d', c', h') ∧ SmB lv' t' d' ∧ Src l c' := by
  intro c h hs
  obtain ⟨lv', t', d', c', h', e, r, s⟩ := bad_eq (h := h) hs (Bal.sm (fine_ok p) r2)
  refine ⟨lv', t', d', c', h', Ev.step (fun k => by rw [spec_l02Two.j0]) ?_, r, s⟩
  simp only [if_neg Bool.false_ne_true, e, Option.bind_some]
  exact Ev.now _
 have w1' := w1
 unfold SmB Sm at w1'
 by_cases hp : IsP p
 ·by_cases hb : Bal p a0 a1 a2
  ·obtain ⟨x3, c3, h3, e3, r3, s3⟩ := next_eq (h := h2) s2 (show (1 : Int) ≤ 2 by omega)
   by_cases hz : x3 = 0
   ·obtain ⟨x4, c4, h4, e4, r4, s4⟩ := next_eq (h := h3) s3 (show (1 : Int) ≤ 5 by omega)
    obtain ⟨lv', t', d', c', h', e, r, s⟩ := two_l0 (a0 := a0) (a1 := a1) (a2 := a2) hp x4.toNat c4 h4 a0 a1 a2 (by omega) s4 hb
    rw [show (x4.toNat : Int) = x4 by omega] at e
    refine ⟨p, a0, a1, a2, lv', t', d', c', h', ?_, r1, w1, r, s⟩
    rw [bnd e1]
    simp only [fine_eq, l01Prime_eq, Option.bind_some]
    rw [bnd e2]
    simp only [decide_eq_true hp, if_true]
    rw [bnd (l01Is_ev (by omega) (by omega))]
    simp only [decide_eq_true (show IsP p ∧ Bal p a0 a1 a2 from ⟨hp, hb⟩), if_true, e3, Option.bind_some]
    rw [show (x3 == 0) = true from beq_iff_eq.2 hz]
    refine Ev.step (fun k => by rw [spec_l02Two.j0]) ?_
    simp only [if_true, e4, Option.bind_some]
    exact e
   ·obtain ⟨lv', t', d', c', h', e, r, s⟩ := no c3 h3 s3
    refine ⟨p, a0, a1, a2, lv', t', d', c', h', ?_, r1, w1, r, s⟩
    rw [bnd e1]
    simp only [fine_eq, l01Prime_eq, Option.bind_some]
    rw [bnd e2]
    simp only [decide_eq_true hp, if_true]
    rw [bnd (l01Is_ev (by omega) (by omega))]
    simp only [decide_eq_true (show IsP p ∧ Bal p a0 a1 a2 from ⟨hp, hb⟩), if_true, e3, Option.bind_some]
    rw [show (x3 == 0) = false from beq_eq_false_iff_ne.2 hz]
    exact e
  ·obtain ⟨lv', t', d', c', h', e, r, s⟩ := no c2 h2 s2
   refine ⟨p, a0, a1, a2, lv', t', d', c', h', ?_, r1, w1, r, s⟩
   rw [bnd e1]
   simp only [fine_eq, l01Prime_eq, Option.bind_some]
   rw [bnd e2]
   simp only [decide_eq_true hp, if_true]
   rw [bnd (l01Is_ev (by omega) (by omega))]
   simp only [decide_eq_false (show ¬ (IsP p ∧ Bal p a0 a1 a2) from fun z => hb z.2), if_neg Bool.false_ne_true]
   exact e
 ·obtain ⟨lv', t', d', c', h', e, r, s⟩ := no c2 h2 s2
  refine ⟨p, a0, a1, a2, lv', t', d', c', h', ?_, r1, w1, r, s⟩
  rw [bnd e1]
  simp only [fine_eq, l01Prime_eq, Option.bind_some]
  rw [bnd e2]
  simp only [decide_eq_false hp, if_neg Bool.false_ne_true]
  exact e
theorem near_dist {p l t d l' t' d' : Int} (h : IsP p) (hb : Bal p l t d) (hb' : Bal p l' t' d') {c : S27} (hc : KidOf p l' t' d' c ∨ ParOf p l' t' d' c) : distL p l t d c.f0 c.f1 c.f2 ≤ distL p l t d l' t' d' + 1 := by
 have hj := join_least hb hb'
 have hr := joinL_range hb hb'
 have hd := ((le_joinL (la := l) (ta := t) (da := d) (lb := l') (tb := t') (db := d') h hr.1 hr.2).1 (Int.le_refl _)).2.2
 have hx := joinL_le (p := p) (la := l) (ta := t) (da := d) (lb := c.f0) (tb := c.f1) (db := c.f2)
 unfold distL
 rcases hc with ⟨h1, h2, h3⟩ | ⟨h1, h2, h3⟩
 ·have s := Bal.sm h h1
  have e : joinL p l t d l' t' d' ≤ joinL p l t d c.f0 c.f1 c.f2 := by
   refine (le_joinL h hr.1 hr.2).2 ⟨hj.2.1, by omega, ?_⟩
   have e1 := Int.dvd_trans (pow_dvd (p := p) (show (joinL p l t d l' t' d' + 6).toNat ≤ (l' + 6).toNat by omega)) h3
   have e2 := Int.dvd_sub hd e1
   rwa [show mk p t d - mk p t' d' - (mk p c.f1 c.f2 - mk p t' d') = mk p t d - mk p c.f1 c.f2 by omega] at e2
  omega
 ·have s := Bal.sm h h1
  by_cases hm : joinL p l t d l' t' d' ≤ l' - 1
  ·have e : joinL p l t d l' t' d' ≤ joinL p l t d c.f0 c.f1 c.f2 := by
    refine (le_joinL h hr.1 hr.2).2 ⟨hj.2.1, by omega, ?_⟩
    have e1 := Int.dvd_trans (pow_dvd (p := p) (show (joinL p l t d l' t' d' + 6).toNat ≤ (l' - 1 + 6).toNat by omega)) h3
    have e2 := Int.dvd_add hd e1
    rwa [show mk p t d - mk p t' d' + (mk p t' d' - mk p c.f1 c.f2) = mk p t d - mk p c.f1 c.f2 by omega] at e2
   omega
  ·have e : l' - 1 ≤ joinL p l t d c.f0 c.f1 c.f2 := by
    refine (le_joinL h (by omega) (by omega)).2 ⟨by omega, by omega, ?_⟩
    have e1 := Int.dvd_trans (pow_dvd (p := p) (show (l' - 1 + 6).toNat ≤ (joinL p l t d l' t' d' + 6).toNat by omega)) hd
    have e2 := Int.dvd_add e1 h3
    rwa [show mk p t d - mk p t' d' + (mk p t' d' - mk p c.f1 c.f2) = mk p t d - mk p c.f1 c.f2 by omega] at e2
   omega
theorem near_all {p l t d : Int} (h : IsP p) (hb : Bal p l t d) : (NearR p l t d).1.length ≤ 8 ∧ ∀ c ∈ (NearR p l t d).1, KidOf p l t d c ∨ ParOf p l t d c := by
 have h7 := h.le_seven
 unfold NearR
 by_cases hk : (ParR p l t d).2.2.2 = true ∧ l ≠ 6
 ·rw [if_pos hk]
  refine ⟨by rw [List.length_cons, kids_length]; omega, ?_⟩
  intro c hc
  rcases List.mem_cons.1 hc with rfl | hc
  ·exact .inr (parOf h hb hk.1)
  ·exact .inl (kidOf h hb hk.2 hc)
 ·rw [if_neg hk]
  exact ⟨by simp, by simp⟩
theorem specNear_ev {p l t d : Int} (h : IsP p) (hb : Bal p l t d) : ∃ xs : List S27 × Bool, Ev (fun k => spec_l02Near.f k p l t d) xs ∧ (xs = NearR p l t d ∨ xs.2 = false ∧ (NearR p l t d).2 = false) := by
 have h7 := h.le_seven
 have hlen : (KidsR p l t d).1.length ≤ 7 := by
  unfold KidsR
  by_cases hl : l = 6
  ·simp only [if_pos hl, List.length_nil]; omega
  ·simp only [if_neg hl, kids_length]; omega
 have hlt : [parL p l t d].length + (KidsR p l t d).1.length < 5864062014805 := by rw [List.length_singleton]; omega
 refine ⟨if (ParR p l t d).2.2.2 = true then (parL p l t d :: (KidsR p l t d).1, (KidsR p l t d).2) else (parL p l t d :: (KidsR p l t d).1, false), ?_, ?_⟩
 ·unfold spec_l02Near.f
  rw [bnd (l01Parent_ev h hb), bnd (l02Children_ev h hb)]
  have hlt' : [(⟨(ParR p l t d).1, (ParR p l t d).2.1, (ParR p l t d).2.2.1⟩ : S27)].length + (KidsR p l t d).1.length < 5864062014805 := hlt
  simp only [Option.bind_some]
  simp only [if_pos hlt']
  by_cases hp : (ParR p l t d).2.2.2 = true
  ·simp only [if_pos hp]; exact Ev.now _
  ·simp only [if_neg hp]; exact Ev.now _
 ·unfold NearR
  by_cases hp : (ParR p l t d).2.2.2 = true
  ·by_cases hl : l = 6
   ·right
    rw [if_pos hp, if_neg (fun hz => hz.2 hl)]
    unfold KidsR
    rw [if_pos hl]
    exact ⟨rfl, rfl⟩
   ·left
    rw [if_pos hp, if_pos ⟨hp, hl⟩]
    unfold KidsR
    rw [if_neg hl]
  ·right
   rw [if_neg hp, if_neg (fun hz => hp hz.1)]
   exact ⟨rfl, rfl⟩
def nearB (p : Int) (x : S27) : List S27 × Bool := NearR p x.f0 x.f1 x.f2
def distB (p : Int) (b c : S27) : Int := distL p b.f0 b.f1 b.f2 c.f0 c.f1 c.f2
def BalB (p : Int) (c : S27) : Prop := Bal p c.f0 c.f1 c.f2
def StepL (p : Int) (b : S27) (n : Int) : List S27 → List S27 → Option (List S27)
 | acc, [] => some acc
 | acc, x :: xs => if (nearB p x).2 = true then StepL p b n (acc ++ (nearB p x).1.filter (fun c => decide (distB p b c = n))) xs else none
def RunL (p : Int) (b : S27) : Nat → Int → List S27 → Option (List S27)
 | 0, _, xs => some xs
 | m + 1, n, xs => (StepL p b n [] xs).bind (RunL p b m (n + 1))
theorem step_facts {p : Int} {b : S27} (h : IsP p) (n : Int) : ∀ (xs acc ys : List S27), (∀ c ∈ xs, BalB p c) → (∀ c ∈ acc, BalB p c ∧ distB p b c = n) → StepL p b n acc xs = some ys → ys.length ≤ acc.length + 8 * xs.length ∧ ∀ c ∈ ys, BalB p c ∧ distB p b c = n := by
 intro xs
 induction xs with
 | nil =>
  intro acc ys _ ha e
  obtain rfl := Option.some.inj e
  exact ⟨by simp, ha⟩
 | cons x xs ih =>
  intro acc ys hx ha e
  rw [StepL] at e
  by_cases hn : (nearB p x).2 = true
  ·rw [if_pos hn] at e
   have hbx := hx x (by simp)
   obtain ⟨n1, n2⟩ := near_all h hbx
   have hlen := List.length_filter_le (fun c => decide (distB p b c = n)) (nearB p x).1
   have n1' : (nearB p x).1.length ≤ 8 := n1
   obtain ⟨r1, r2⟩ := ih _ ys (fun c hc => hx c (List.mem_cons_of_mem _ hc)) (by
    intro c hc
    rcases List.mem_append.1 hc with hc | hc
    ·exact ha c hc
    ·obtain ⟨m1, m2⟩ := List.mem_filter.1 hc
     refine ⟨?_, of_decide_eq_true m2⟩
     rcases n2 c m1 with z | z
     ·exact z.1
     ·exact z.1) e
   refine ⟨?_, r2⟩
   rw [List.length_append] at r1
   rw [List.length_cons]
   omega
  ·rw [if_neg hn] at e; exact absurd e (by simp)
def Ring (p : Int) (b : S27) (n : Int) (m : Nat) (xs : List S27) : Prop := xs.length ≤ m ∧ ∀ c ∈ xs, BalB p c ∧ distB p b c = n
theorem ring_next {p : Int} {b : S27} (h : IsP p) {n : Int} {m : Nat} {xs ys : List S27} (hr : Ring p b n m xs) (e : StepL p b (n + 1) [] xs = some ys) : Ring p b (n + 1) (8 * m) ys := by
 obtain ⟨r1, r2⟩ := step_facts h (n + 1) xs [] ys (fun c hc => (hr.2 c hc).1) (by simp) e
 have := hr.1
 rw [List.length_nil] at r1
 exact ⟨by omega, r2⟩
theorem run_ring {p : Int} {b : S27} (h : IsP p) : ∀ (k : Nat) (n : Int) (m : Nat) (xs ys : List S27), Ring p b n m xs → RunL p b k (n + 1) xs = some ys → Ring p b (n + k) (8 ^ k * m) ys := by
 intro k
 induction k with
 | zero =>
  intro n m xs ys hr e
  obtain rfl := Option.some.inj e
  have e1 : n + ((0 : Nat) : Int) = n := by omega
  rw [e1, Nat.pow_zero, Nat.one_mul]
  exact hr
 | succ k ih =>
  intro n m xs ys hr e
  rw [RunL] at e
  obtain ⟨zs, e1, e2⟩ := Option.bind_eq_some_iff.1 e
  have := ih (n + 1) (8 * m) zs ys (ring_next h hr e1) e2
  have e1 : n + ((k + 1 : Nat) : Int) = n + 1 + (k : Int) := by omega
  rw [e1, Nat.pow_succ, Nat.mul_assoc]
  exact this
theorem specRing2 {p l t d : Int} (h : IsP p) (hb : Bal p l t d) {r kk x12 : Int} {xs : List S27} {z : List S27 × Int} : ∀ (ys pre acc : List S27), (pre ++ ys).length ≤ 1000 → acc.length + ys.length ≤ 100000 → (∀ c ∈ ys, BalB p c) →
  Ev (fun k => spec_SphereAround.l1 k p r xs kk (acc ++ ys.filter (fun c => decide (distB p ⟨l, t, d⟩ c = kk))) (wrap64 (x12 + 1)) l t d) z → Ev (fun k => spec_SphereAround.l2 k p r xs kk acc x12 (pre ++ ys) pre.length l t d) z := by
 intro ys
 induction ys with
 | nil =>
  intro pre acc h1 h2 h3 hz
  refine Ev.step (fun k => by rw [spec_SphereAround.l2]) ?_
  simp only [List.append_nil, if_neg (Int.lt_irrefl _)]
  rw [List.filter_nil, List.append_nil] at hz
  exact hz
 | cons y ys ih =>
  intro pre acc h1 h2 h3 hz
  have hy := h3 y (by simp)
  refine Ev.step (fun k => by rw [spec_SphereAround.l2]) ?_
  have hlt : (pre.length : Int) < ((pre ++ y :: ys).length : Int) := by rw [List.length_append, List.length_cons]; omega
  have hl : pre.length ≤ 1000 := by rw [List.length_append] at h1; omega
  rw [List.length_cons] at h2
  have e2 : wrap64 ((pre.length : Int) + 1) = ((pre ++ [y]).length : Int) := by rw [wrap_id (by omega) (by omega)]; simp
  simp only [if_pos hlt, if_pos (show (0 : Int) ≤ (pre.length : Int) by omega), rd_ball_at, e2]
  rw [bnd (l02Distance_ev h hb hy)]
  have ed : distL p l t d y.f0 y.f1 y.f2 = distB p ⟨l, t, d⟩ y := rfl
  rw [ed]
  have es : pre ++ y :: ys = (pre ++ [y]) ++ ys := by simp
  rw [es] at h1 ⊢
  by_cases hd : distB p ⟨l, t, d⟩ y = kk
  ·simp only [if_pos hd, if_pos (show acc.length < 5864062014805 by omega)]
   refine ih (pre ++ [y]) (acc ++ [y]) h1 (by rw [List.length_append, List.length_singleton]; omega) (fun c hc => h3 c (List.mem_cons_of_mem _ hc)) ?_
   rw [List.filter_cons, if_pos (decide_eq_true hd)] at hz
   rw [List.append_assoc]
   exact hz
  ·simp only [if_neg hd]
   refine ih (pre ++ [y]) acc h1 (by omega) (fun c hc => h3 c (List.mem_cons_of_mem _ hc)) ?_
   rw [List.filter_cons, if_neg (by rw [decide_eq_true_eq]; exact hd)] at hz
   exact hz
theorem near_balB {p : Int} (h : IsP p) {x : S27} (hx : BalB p x) : (nearB p x).1.length ≤ 8 ∧ ∀ c ∈ (nearB p x).1, BalB p c := by
 obtain ⟨n1, n2⟩ := near_all h hx
 refine ⟨n1, fun c hc => ?_⟩
 rcases n2 c hc with z | z
 ·exact z.1
 ·exact z.1
theorem specRing1 {p l t d : Int} (h : IsP p) (hb : Bal p l t d) {r kk : Int} {z : List S27 × Int} : ∀ (xs pre acc : List S27), (pre ++ xs).length ≤ 5000 → acc.length + 8 * xs.length ≤ 90000 → (∀ c ∈ xs, BalB p c) →
  (match StepL p ⟨l, t, d⟩ kk acc xs with | none => z = ([], 3) | some ys => Ev (fun k => spec_SphereAround.l0 k p r ys (wrap64 (kk + 1)) l t d) z) →
  Ev (fun k => spec_SphereAround.l1 k p r (pre ++ xs) kk acc pre.length l t d) z := by
 intro xs
 induction xs with
 | nil =>
  intro pre acc h1 h2 h3 hz
  refine Ev.step (fun k => by rw [spec_SphereAround.l1]) ?_
  simp only [List.append_nil, if_neg (Int.lt_irrefl _)]
  exact hz
 | cons x xs ih =>
  intro pre acc h1 h2 h3 hz
  have hx := h3 x (by simp)
  refine Ev.step (fun k => by rw [spec_SphereAround.l1]) ?_
  have hlt : (pre.length : Int) < ((pre ++ x :: xs).length : Int) := by rw [List.length_append, List.length_cons]; omega
  have hl : pre.length ≤ 5000 := by rw [List.length_append] at h1; omega
  rw [List.length_cons] at h2
  have e2 : wrap64 ((pre.length : Int) + 1) = ((pre ++ [x]).length : Int) := by rw [wrap_id (by omega) (by omega)]; simp
  simp only [if_pos hlt, if_pos (show (0 : Int) ≤ (pre.length : Int) by omega), rd_ball_at]
  obtain ⟨ns, en, hn⟩ := specNear_ev h hx
  rw [bnd en]
  rw [StepL] at hz
  have es : pre ++ x :: xs = (pre ++ [x]) ++ xs := by simp
  obtain ⟨b1, b2⟩ := near_balB h hx
  have hf := List.length_filter_le (fun c => decide (distB p ⟨l, t, d⟩ c = kk)) (nearB p x).1
  by_cases hk : (nearB p x).2 = true
  ·rcases hn with hn | hn
   ·have hn' : ns = nearB p x := hn
    rw [hn']
    simp only [if_pos hk]
    rw [if_pos hk] at hz
    refine specRing2 h hb (nearB p x).1 [] acc (by rw [List.nil_append]; omega) (by omega) b2 ?_
    rw [e2, es]
    rw [es] at h1
    exact ih (pre ++ [x]) _ h1 (by rw [List.length_append]; omega) (fun c hc => h3 c (List.mem_cons_of_mem _ hc)) hz
   ·exact absurd (hn.2.symm.trans hk) (by simp)
  ·have hns : ¬ ns.2 = true := by
    rcases hn with hn | hn
    ·rw [hn]; exact hk
    ·rw [hn.1]; simp
   rw [if_neg hk] at hz
   simp only [if_neg hns]
   exact ev_some hz.symm
theorem specRing0 {p l t d : Int} (h : IsP p) (hb : Bal p l t d) {r : Int} (hr : r ≤ 4) : ∀ (m : Nat) (n : Int) (q : Nat) (xs : List S27), 0 ≤ n → n + m = r → Ring p ⟨l, t, d⟩ n q xs → 8 ^ m * q ≤ 5000 →
  Ev (fun k => spec_SphereAround.l0 k p r xs (n + 1) l t d) (match RunL p ⟨l, t, d⟩ m (n + 1) xs with | none => ([], 3) | some ys => (ys, 0)) := by
 intro m
 induction m with
 | zero =>
  intro n q xs n0 hn hg hq
  refine Ev.step (fun k => by rw [spec_SphereAround.l0]) ?_
  simp only [if_neg (show ¬ n + 1 ≤ r by omega), RunL]
  exact Ev.now _
 | succ m ih =>
  intro n q xs n0 hn hg hq
  refine Ev.step (fun k => by rw [spec_SphereAround.l0]) ?_
  simp only [if_pos (show n + 1 ≤ r by omega)]
  have h8 : 1 ≤ 8 ^ m := Nat.one_le_pow _ _ (by omega)
  have hq8 : 8 ^ m * (8 * q) ≤ 5000 := by rw [Nat.pow_succ, Nat.mul_assoc] at hq; exact hq
  have hq1 : 1 * (8 * q) ≤ 8 ^ m * (8 * q) := Nat.mul_le_mul_right _ h8
  have hl := hg.1
  refine specRing1 h hb xs [] [] (by rw [List.nil_append]; omega) (by rw [List.length_nil]; omega) (fun c hc => (hg.2 c hc).1) ?_
  rw [RunL]
  cases e : StepL p ⟨l, t, d⟩ (n + 1) [] xs with
  | none => rfl
  | some ys =>
   dsimp only [Option.bind_some]
   rw [wrap_id (x := n + 1 + 1) (by omega) (by omega)]
   exact ih (n + 1) (8 * q) ys (by omega) (by omega) (ring_next h hg e) hq8
def SphereR (p l t d r : Int) : List S27 × Int := if IsP p ∧ Bal p l t d then (if 0 ≤ r ∧ r ≤ 4 then (match RunL p ⟨l, t, d⟩ r.toNat 1 [⟨l, t, d⟩] with | none => ([], 3) | some ys => (ys, 0)) else ([], 2)) else ([], 1)
theorem ring_one {p l t d : Int} (hb : Bal p l t d) (h : IsP p) : Ring p ⟨l, t, d⟩ 0 1 [⟨l, t, d⟩] := by
 refine ⟨by simp, ?_⟩
 intro c hc
 rw [List.mem_singleton] at hc
 subst hc
 refine ⟨hb, ?_⟩
 have hs := Bal.sm h hb
 show l + l - 2 * joinL p l t d l t d = 0
 rw [(contains_iff h hs.1.1 hs.1.2).2 ⟨Int.le_refl _, by rw [Int.sub_self]; exact Int.dvd_zero _⟩]
 omega
theorem pow8_le {r : Int} (h0 : 0 ≤ r) (h1 : r ≤ 4) : 8 ^ r.toNat * 1 ≤ 5000 := by
 have : 8 ^ r.toNat ≤ 8 ^ 4 := Nat.pow_le_pow_right (by omega) (by omega)
 omega
theorem SphereR_length (p l t d r : Int) : (SphereR p l t d r).1.length ≤ 5000 := by
 unfold SphereR
 by_cases h : IsP p ∧ Bal p l t d
 ·rw [if_pos h]
  by_cases hr : 0 ≤ r ∧ r ≤ 4
  ·rw [if_pos hr]
   have hq := pow8_le hr.1 hr.2
   cases e : RunL p ⟨l, t, d⟩ r.toNat 1 [⟨l, t, d⟩] with
   | none => simp
   | some ys =>
    have := run_ring h.1 r.toNat 0 1 [⟨l, t, d⟩] ys (ring_one h.2 h.1) e
    exact Nat.le_trans this.1 hq
  ·rw [if_neg hr]; simp
 ·rw [if_neg h]; simp
theorem specSphereAround_ev {p l t d r : Int} (hl : -9223372036854775808 ≤ l ∧ l ≤ 9223372036854775807) (hd : -9223372036854775808 ≤ d ∧ d ≤ 9223372036854775807) : Ev (fun k => spec_SphereAround.f k p l t d r) (SphereR p l t d r) := by
 unfold spec_SphereAround.f SphereR
 rw [bnd (l01Code1 hl hd)]
 by_cases h : IsP p ∧ Bal p l t d
 ·simp only [h, and_self, if_true, l01In_eq, Option.bind_some]
  refine Ev.step (fun k => by rw [spec_SphereAround.j0]) ?_
  by_cases hr : 0 ≤ r ∧ r ≤ 4
  ·simp only [decide_eq_true hr, Bool.not_true, if_neg Bool.false_ne_true, if_pos hr]
   refine Ev.step (fun k => by rw [spec_SphereAround.j1]) ?_
   simp only [if_true]
   exact specRing0 h.1 h.2 hr.2 r.toNat 0 1 _ (by omega) (by omega) (ring_one h.2 h.1) (pow8_le hr.1 hr.2)
  ·simp only [decide_eq_false hr, Bool.not_false, if_true, if_neg hr]
   refine Ev.step (fun k => by rw [spec_SphereAround.j1]) ?_
   simp only [if_neg (show ¬ (2 : Int) = 0 by omega)]
   exact Ev.now _
 ·simp only [h, if_false, if_neg (show ¬ (1 : Int) = 0 by omega)]
  refine Ev.step (fun k => by rw [spec_SphereAround.j0]) ?_
  simp only [if_neg Bool.false_ne_true]
  refine Ev.step (fun k => by rw [spec_SphereAround.j1]) ?_
  simp only [if_neg (show ¬ (1 : Int) = 0 by omega)]
  exact Ev.now _
theorem rd_lists_at (pre : List (List S27)) (b : List S27) : rd_L2 (pre ++ [b]) (pre.length : Int) = b := by
 unfold rd_L2
 simp [List.getD_eq_getElem?_getD]
theorem implRing2 {p l t d : Int} (h : IsP p) (hb : Bal p l t d) {out : List (List S27)} {n r n' len i : Int} {xs : List S27} {z : List (List S27) × Bool} : ∀ (ys pre acc : List S27), (pre ++ ys).length ≤ 1000 → acc.length + ys.length ≤ 100000 → (∀ c ∈ ys, BalB p c ∧ distB p ⟨l, t, d⟩ c ≤ n + 1) →
  Ev (fun k => impl_spheres.l1 k p out n (acc ++ ys.filter (fun c => decide (distB p ⟨l, t, d⟩ c = n + 1))) r n' xs len (wrap64 (i + 1)) l t d) z → Ev (fun k => impl_spheres.l2 k p out n acc r n' xs len i (pre ++ ys) ((pre ++ ys).length : Int) pre.length l t d) z := by
 intro ys
 induction ys with
 | nil =>
  intro pre acc h1 h2 h3 hz
  refine Ev.step (fun k => by rw [impl_spheres.l2]) ?_
  simp only [List.append_nil, if_neg (Int.lt_irrefl _)]
  rw [List.filter_nil, List.append_nil] at hz
  exact hz
 | cons y ys ih =>
  intro pre acc h1 h2 h3 hz
  have hy := h3 y (by simp)
  refine Ev.step (fun k => by rw [impl_spheres.l2]) ?_
  have hlt : (pre.length : Int) < ((pre ++ y :: ys).length : Int) := by rw [List.length_append, List.length_cons]; omega
  have hl : pre.length ≤ 1000 := by rw [List.length_append] at h1; omega
  rw [List.length_cons] at h2
  have e2 : wrap64 ((pre.length : Int) + 1) = ((pre ++ [y]).length : Int) := by rw [wrap_id (by omega) (by omega)]; simp
  simp only [if_pos hlt, if_pos (show (0 : Int) ≤ (pre.length : Int) by omega), rd_ball_at, e2]
  rw [bnd (distance_ev h hb hy.1)]
  have ed : distL p l t d y.f0 y.f1 y.f2 = distB p ⟨l, t, d⟩ y := rfl
  rw [ed]
  have es : pre ++ y :: ys = (pre ++ [y]) ++ ys := by simp
  rw [es] at h1 ⊢
  have hle := hy.2
  by_cases hd : distB p ⟨l, t, d⟩ y = n + 1
  ·simp only [if_pos (show distB p ⟨l, t, d⟩ y > n by omega), if_pos (show acc.length < 5864062014805 by omega)]
   refine ih (pre ++ [y]) (acc ++ [y]) h1 (by rw [List.length_append, List.length_singleton]; omega) (fun c hc => h3 c (List.mem_cons_of_mem _ hc)) ?_
   rw [List.filter_cons, if_pos (decide_eq_true hd)] at hz
   rw [List.append_assoc]
   exact hz
  ·simp only [if_neg (show ¬ distB p ⟨l, t, d⟩ y > n by omega)]
   refine ih (pre ++ [y]) acc h1 (by omega) (fun c hc => h3 c (List.mem_cons_of_mem _ hc)) ?_
   rw [List.filter_cons, if_neg (by rw [decide_eq_true_eq]; exact hd)] at hz
   exact hz
theorem implRing1 {p l t d : Int} (h : IsP p) (hb : Bal p l t d) {out : List (List S27)} {n r n' : Int} (ho : out.length ≤ 1000) {z : List (List S27) × Bool} : ∀ (xs pre acc : List S27), (pre ++ xs).length ≤ 5000 → acc.length + 8 * xs.length ≤ 90000 → (∀ c ∈ xs, BalB p c ∧ distB p ⟨l, t, d⟩ c = n) →
  (match StepL p ⟨l, t, d⟩ (n + 1) acc xs with | none => z = ([], false) | some ys => Ev (fun k => impl_spheres.l0 k p (out ++ [ys]) r (wrap64 (n' + 1)) l t d) z) →
  Ev (fun k => impl_spheres.l1 k p out n acc r n' (pre ++ xs) ((pre ++ xs).length : Int) pre.length l t d) z := by
 intro xs
 induction xs with
 | nil =>
  intro pre acc h1 h2 h3 hz
  refine Ev.step (fun k => by rw [impl_spheres.l1]) ?_
  simp only [List.append_nil, if_neg (Int.lt_irrefl _), if_pos (show out.length < 5864062014805 by omega)]
  exact hz
 | cons x xs ih =>
  intro pre acc h1 h2 h3 hz
  have hx := h3 x (by simp)
  refine Ev.step (fun k => by rw [impl_spheres.l1]) ?_
  have hlt : (pre.length : Int) < ((pre ++ x :: xs).length : Int) := by rw [List.length_append, List.length_cons]; omega
  have hl : pre.length ≤ 5000 := by rw [List.length_append] at h1; omega
  rw [List.length_cons] at h2
  have e2 : wrap64 ((pre.length : Int) + 1) = ((pre ++ [x]).length : Int) := by rw [wrap_id (by omega) (by omega)]; simp
  simp only [if_pos hlt, if_pos (show (0 : Int) ≤ (pre.length : Int) by omega), rd_ball_at]
  have en : Ev (fun k => impl_someNeighbours.f k p x.f0 x.f1 x.f2 0) (nearB p x) := someNear_ev h hx.1
  rw [bnd en]
  rw [StepL] at hz
  have es : pre ++ x :: xs = (pre ++ [x]) ++ xs := by simp
  obtain ⟨b1, b2⟩ := near_all h hx.1
  have b1' : (nearB p x).1.length ≤ 8 := b1
  have hf := List.length_filter_le (fun c => decide (distB p ⟨l, t, d⟩ c = n + 1)) (nearB p x).1
  by_cases hk : (nearB p x).2 = true
  ·simp only [if_pos hk]
   rw [if_pos hk] at hz
   refine implRing2 h hb (nearB p x).1 [] acc (by rw [List.nil_append]; omega) (by omega) (fun c hc => ?_) ?_
   ·have hcx := b2 c hc
    have e := near_dist h hb hx.1 hcx
    have e' : distB p ⟨l, t, d⟩ c ≤ distB p ⟨l, t, d⟩ x + 1 := e
    refine ⟨?_, by have := hx.2; omega⟩
    rcases hcx with z | z
    ·exact z.1
    ·exact z.1
   ·rw [e2, es]
    rw [es] at h1
    exact ih (pre ++ [x]) _ h1 (by rw [List.length_append]; omega) (fun c hc => h3 c (List.mem_cons_of_mem _ hc)) hz
  ·rw [if_neg hk] at hz
   simp only [if_neg hk]
   exact ev_some hz.symm
theorem implRing0 {p l t d : Int} (h : IsP p) (hb : Bal p l t d) {r : Int} (hr : r ≤ 4) : ∀ (m : Nat) (pre : List (List S27)) (q : Nat) (xs : List S27), (pre.length : Int) + m = r → Ring p ⟨l, t, d⟩ pre.length q xs → 8 ^ m * q ≤ 5000 →
  (match RunL p ⟨l, t, d⟩ m ((pre.length : Int) + 1) xs with | none => Ev (fun k => impl_spheres.l0 k p (pre ++ [xs]) r pre.length l t d) ([], false) | some ys => ∃ pre' : List (List S27), (pre'.length : Int) = r ∧ Ev (fun k => impl_spheres.l0 k p (pre ++ [xs]) r pre.length l t d) (pre' ++ [ys], true)) := by
 intro m
 induction m with
 | zero =>
  intro pre q xs hn hg hq
  rw [RunL]
  refine ⟨pre, by omega, Ev.step (fun k => by rw [impl_spheres.l0]) ?_⟩
  simp only [if_neg (show ¬ (pre.length : Int) < r by omega)]
  exact Ev.now _
 | succ m ih =>
  intro pre q xs hn hg hq
  have h8 : 1 ≤ 8 ^ m := Nat.one_le_pow _ _ (by omega)
  have hq8 : 8 ^ m * (8 * q) ≤ 5000 := by rw [Nat.pow_succ, Nat.mul_assoc] at hq; exact hq
  have hq1 : 1 * (8 * q) ≤ 8 ^ m * (8 * q) := Nat.mul_le_mul_right _ h8
  have hl := hg.1
  have go : ∀ z, (match StepL p ⟨l, t, d⟩ ((pre.length : Int) + 1) [] xs with | none => z = ([], false) | some ys => Ev (fun k => impl_spheres.l0 k p ((pre ++ [xs]) ++ [ys]) r (wrap64 ((pre.length : Int) + 1)) l t d) z) → Ev (fun k => impl_spheres.l0 k p (pre ++ [xs]) r pre.length l t d) z := by
   intro z hz
   refine Ev.step (fun k => by rw [impl_spheres.l0]) ?_
   simp only [if_pos (show (pre.length : Int) < r by omega), if_pos (show (0 : Int) ≤ (pre.length : Int) by omega), rd_lists_at]
   simp only [if_pos (show (pre.length : Int) < ((pre ++ [xs]).length : Int) by rw [List.length_append, List.length_singleton]; omega)]
   exact implRing1 h hb (by rw [List.length_append, List.length_singleton]; omega) xs [] [] (by rw [List.nil_append]; omega) (by rw [List.length_nil]; omega) hg.2 hz
  rw [RunL]
  cases e : StepL p ⟨l, t, d⟩ ((pre.length : Int) + 1) [] xs with
  | none =>
   refine go _ ?_
   rw [e]
  | some ys =>
   dsimp only [Option.bind_some]
   have hlen : ((pre ++ [xs]).length : Int) = (pre.length : Int) + 1 := by rw [List.length_append, List.length_singleton]; omega
   have hi := ih (pre ++ [xs]) (8 * q) ys (by omega) (by rw [hlen]; exact ring_next h hg e) hq8
   have ew : wrap64 ((pre.length : Int) + 1) = ((pre ++ [xs]).length : Int) := by rw [hlen]; exact wrap_id (by omega) (by omega)
   rw [hlen] at hi
   rw [e, ew, hlen] at go
   cases e2 : RunL p ⟨l, t, d⟩ m ((pre.length : Int) + 1 + 1) ys with
   | none =>
    rw [e2] at hi
    exact go _ hi
   | some zs =>
    rw [e2] at hi
    obtain ⟨pre', h1, h2⟩ := hi
    exact ⟨pre', h1, go _ h2⟩
theorem implSphereAround_ev {p l t d r : Int} (hl : -9223372036854775808 ≤ l ∧ l ≤ 9223372036854775807) (hd : -9223372036854775808 ≤ d ∧ d ≤ 9223372036854775807) : Ev (fun k => impl_SphereAround.f k p l t d r) (SphereR p l t d r) := by
 have hlen := SphereR_length p l t d r
 unfold impl_SphereAround.f
 rw [bnd (IsBall_ev hl hd)]
 by_cases h : IsP p ∧ Bal p l t d
 ·simp only [decide_eq_true h, if_true]
  by_cases hr : 0 ≤ r ∧ r ≤ 4
  ·simp only [if_neg (show ¬ r < 0 by omega), if_neg (show ¬ r > 4 by omega)]
   have hi : (match RunL p ⟨l, t, d⟩ r.toNat 1 [⟨l, t, d⟩] with | none => Ev (fun k => impl_spheres.l0 k p [[⟨l, t, d⟩]] r 0 l t d) ([], false) | some ys => ∃ pre' : List (List S27), (pre'.length : Int) = r ∧ Ev (fun k => impl_spheres.l0 k p [[⟨l, t, d⟩]] r 0 l t d) (pre' ++ [ys], true)) :=
    implRing0 h.1 h.2 hr.2 r.toNat [] 1 [⟨l, t, d⟩] (by simp; omega) (ring_one h.2 h.1) (pow8_le hr.1 hr.2)
   unfold SphereR at hlen ⊢
   rw [if_pos h, if_pos hr] at hlen ⊢
   unfold impl_spheres.f
   cases e : RunL p ⟨l, t, d⟩ r.toNat 1 [⟨l, t, d⟩] with
   | none =>
    rw [e] at hi
    rw [bnd hi]
    simp only [if_neg Bool.false_ne_true]
    exact Ev.now _
   | some ys =>
    rw [e] at hi hlen
    obtain ⟨pre', h1, h2⟩ := hi
    rw [bnd h2]
    have hy : ys.length ≤ 5000 := hlen
    have hlt : r < ((pre' ++ [ys]).length : Int) := by rw [List.length_append, List.length_singleton]; omega
    have hrd : rd_L2 (pre' ++ [ys]) r = ys := by rw [← h1]; exact rd_lists_at pre' ys
    simp only [if_true, if_pos hr.1, if_pos hlt, hrd, impl_Ball.f, Option.bind_some]
    rw [if_pos (show ([] : List S27).length + ys.length < 5864062014805 by rw [List.length_nil]; omega)]
    exact Ev.now _
  ·unfold SphereR
   rw [if_pos h, if_neg hr]
   by_cases h0 : r < 0
   ·simp only [if_pos h0]; exact Ev.now _
   ·simp only [if_neg h0, if_pos (show r > 4 by omega)]; exact Ev.now _
 ·unfold SphereR
  rw [if_neg h]
  simp only [decide_eq_false h, if_neg Bool.false_ne_true]
  exact Ev.now _
theorem at_dvd {p x n : Int} (h : IsP p) : p ^ (n + 6).toNat ∣ x - mk p (ofMt p n x) (ofMd p n x) := by
 rw [ofM_mark h]
 have := Int.dvd_neg.2 (dvd_emod_sub x (p ^ (n + 6).toNat))
 rwa [show -(x % p ^ (n + 6).toNat - x) = x - x % p ^ (n + 6).toNat by omega] at this
theorem join_at {p l t d l' t' d' n : Int} (h : IsP p) (hb : Bal p l t d) (hb' : Bal p l' t' d') (n0 : -6 ≤ n) (n1 : n ≤ l) : joinL p n (ofMt p n (mk p t d)) (ofMd p n (mk p t d)) l' t' d' = mn n (joinL p l t d l' t' d') := by
 have s := Bal.sm h hb
 have hn := ofM_bal h n0 (show n ≤ 6 by omega) (mk p t d)
 have r := joinL_range hn hb'
 have q := joinL_range hb hb'
 have hd := at_dvd (x := mk p t d) (n := n) h
 have a := (le_joinL (la := n) (ta := ofMt p n (mk p t d)) (da := (ofMd p n (mk p t d) : Int)) (lb := l') (tb := t') (db := d') h r.1 r.2).1 (Int.le_refl _)
 have b := (le_joinL (la := l) (ta := t) (da := d) (lb := l') (tb := t') (db := d') h q.1 q.2).1 (Int.le_refl _)
 have le1 : joinL p n (ofMt p n (mk p t d)) (ofMd p n (mk p t d)) l' t' d' ≤ joinL p l t d l' t' d' := by
  refine (le_joinL h r.1 r.2).2 ⟨by omega, a.2.1, ?_⟩
  have e1 := Int.dvd_trans (pow_dvd (p := p) (show (joinL p n (ofMt p n (mk p t d)) (ofMd p n (mk p t d)) l' t' d' + 6).toNat ≤ (n + 6).toNat by omega)) hd
  have e2 := Int.dvd_add e1 a.2.2
  rwa [show mk p t d - mk p (ofMt p n (mk p t d)) (ofMd p n (mk p t d)) + (mk p (ofMt p n (mk p t d)) (ofMd p n (mk p t d)) - mk p t' d') = mk p t d - mk p t' d' by omega] at e2
 have k0 : -6 ≤ mn n (joinL p l t d l' t' d') ∧ mn n (joinL p l t d l' t' d') ≤ 6 ∧ mn n (joinL p l t d l' t' d') ≤ n ∧ mn n (joinL p l t d l' t' d') ≤ joinL p l t d l' t' d' := by unfold mn; split <;> omega
 have le2 : mn n (joinL p l t d l' t' d') ≤ joinL p n (ofMt p n (mk p t d)) (ofMd p n (mk p t d)) l' t' d' := by
  refine (le_joinL h k0.1 k0.2.1).2 ⟨k0.2.2.1, by omega, ?_⟩
  have e1 := Int.dvd_trans (pow_dvd (p := p) (show (mn n (joinL p l t d l' t' d') + 6).toNat ≤ (n + 6).toNat by omega)) hd
  have e2 := Int.dvd_trans (pow_dvd (p := p) (show (mn n (joinL p l t d l' t' d') + 6).toNat ≤ (joinL p l t d l' t' d' + 6).toNat by omega)) b.2.2
  have e3 := Int.dvd_sub e2 e1
  rwa [show mk p t d - mk p t' d' - (mk p t d - mk p (ofMt p n (mk p t d)) (ofMd p n (mk p t d))) = mk p (ofMt p n (mk p t d)) (ofMd p n (mk p t d)) - mk p t' d' by omega] at e3
 have : joinL p n (ofMt p n (mk p t d)) (ofMd p n (mk p t d)) l' t' d' ≤ mn n (joinL p l t d l' t' d') := by unfold mn; split <;> omega
 omega
theorem join_own {p l t d : Int} (h : IsP p) (hb : Bal p l t d) : joinL p l t d l t d = l := by
 have hs := Bal.sm h hb
 exact (contains_iff h hs.1.1 hs.1.2).2 ⟨Int.le_refl _, by rw [Int.sub_self]; exact Int.dvd_zero _⟩
theorem join_tri {p la ta da lb tb db lc tc dc : Int} (h : IsP p) (ha : Bal p la ta da) (hb : Bal p lb tb db) (hc : Bal p lc tc dc) : mn (joinL p la ta da lb tb db) (joinL p lb tb db lc tc dc) ≤ joinL p la ta da lc tc dc := by
 have r1 := joinL_range ha hb
 have r2 := joinL_range hb hc
 have a := (le_joinL (la := la) (ta := ta) (da := da) (lb := lb) (tb := tb) (db := db) h r1.1 r1.2).1 (Int.le_refl _)
 have b := (le_joinL (la := lb) (ta := tb) (da := db) (lb := lc) (tb := tc) (db := dc) h r2.1 r2.2).1 (Int.le_refl _)
 generalize hm : mn (joinL p la ta da lb tb db) (joinL p lb tb db lc tc dc) = m
 have k0 : -6 ≤ m ∧ m ≤ 6 ∧ m ≤ joinL p la ta da lb tb db ∧ m ≤ joinL p lb tb db lc tc dc := by unfold mn at hm; split at hm <;> omega
 refine (le_joinL h k0.1 k0.2.1).2 ⟨by omega, by omega, ?_⟩
 have e1 := Int.dvd_trans (pow_dvd (p := p) (show (m + 6).toNat ≤ (joinL p la ta da lb tb db + 6).toNat by omega)) a.2.2
 have e2 := Int.dvd_trans (pow_dvd (p := p) (show (m + 6).toNat ≤ (joinL p lb tb db lc tc dc + 6).toNat by omega)) b.2.2
 have e3 := Int.dvd_add e1 e2
 rwa [show mk p ta da - mk p tb db + (mk p tb db - mk p tc dc) = mk p ta da - mk p tc dc by omega] at e3
theorem turn_tri {p la ta da lb tb db num den : Int} (h : IsP p) (ha : Bal p la ta da) (hb : Bal p lb tb db) (hden : den ≠ 0) : mn (turnL p la ta da num den) (joinL p la ta da lb tb db) ≤ turnL p lb tb db num den := by
 have hj := joinL_le (p := p) (la := la) (ta := ta) (da := da) (lb := lb) (tb := tb) (db := db)
 have hs := Bal.sm h hb
 have m1 : mn (turnL p la ta da num den) (joinL p la ta da lb tb db) ≤ joinL p la ta da lb tb db ∧ mn (turnL p la ta da num den) (joinL p la ta da lb tb db) ≤ nn p ta da num den := by
  unfold turnL mn; (repeat' split) <;> omega
 generalize mn (turnL p la ta da num den) (joinL p la ta da lb tb db) = m at *
 have hn : m ≤ nn p tb db num den := by
  have e : num * p ^ 6 - mk p tb db * den = num * p ^ 6 - mk p ta da * den + (mk p ta da - mk p tb db) * den := by rw [Int.sub_mul]; omega
  have ea : nn p ta da num den = if num * p ^ 6 - mk p ta da * den = 0 then 1000 else (vl p (num * p ^ 6 - mk p ta da * den) : Int) - vl p den - 6 := rfl
  have ej : joinL p la ta da lb tb db = if mk p ta da = mk p tb db then mn la lb else mn (mn la lb) ((vl p (mk p ta da - mk p tb db) : Int) - 6) := rfl
  show m ≤ if num * p ^ 6 - mk p tb db * den = 0 then 1000 else (vl p (num * p ^ 6 - mk p tb db * den) : Int) - vl p den - 6
  by_cases hz : num * p ^ 6 - mk p tb db * den = 0
  ·rw [if_pos hz]; omega
  ·rw [if_neg hz]
   by_cases he : m + 6 + vl p den ≤ 0
   ·omega
   ·obtain ⟨E, hE⟩ : ∃ E : Nat, m + 6 + vl p den = E := ⟨(m + 6 + vl p den).toNat, by omega⟩
    have d1 : p ^ E ∣ num * p ^ 6 - mk p ta da * den := by
     by_cases h0 : num * p ^ 6 - mk p ta da * den = 0
     ·rw [h0]; exact Int.dvd_zero _
     ·rw [if_neg h0] at ea
      exact (pow_dvd_iff h h0 E).2 (by omega)
    have d2 : p ^ E ∣ (mk p ta da - mk p tb db) * den := by
     by_cases h0 : mk p ta da = mk p tb db
     ·rw [h0, Int.sub_self, Int.zero_mul]; exact Int.dvd_zero _
     ·rw [if_neg h0] at ej
      have h1 : mk p ta da - mk p tb db ≠ 0 := by omega
      refine (pow_dvd_iff h (Int.mul_ne_zero h1 hden) E).2 ?_
      rw [vl_mul h h1 hden]
      have : joinL p la ta da lb tb db ≤ (vl p (mk p ta da - mk p tb db) : Int) - 6 := by rw [ej]; unfold mn; (repeat' split) <;> omega
      omega
    have d3 := Int.dvd_add d1 d2
    rw [← e] at d3
    have := (pow_dvd_iff h hz E).1 d3
    omega
 show m ≤ mn lb (nn p tb db num den)
 unfold mn
 split <;> omega
theorem height_law {p l t d l' t' d' num den : Int} (hz : (HeightR p l t d l' t' d' num den).2 = 0) :
  IsP p ∧ Bal p l t d ∧ Bal p l' t' d' ∧ HeightR p l' t' d' l t d num den = (-(HeightR p l t d l' t' d' num den).1, 0) ∧ DistR p l t d l' t' d' = (distL p l t d l' t' d', 0) ∧
  (-1000 ≤ (HeightR p l t d l' t' d' num den).1 ∧ (HeightR p l t d l' t' d' num den).1 ≤ 1000) ∧ (HeightR p l t d l' t' d' num den).1 ≤ distL p l t d l' t' d' ∧ -(HeightR p l t d l' t' d' num den).1 ≤ distL p l t d l' t' d' ∧ distL p l t d l' t' d' ≤ 1000 ∧ ∃ e, distL p l t d l' t' d' - (HeightR p l t d l' t' d' num den).1 = 2 * e := by
 by_cases h : IsP p ∧ Bal p l t d ∧ Bal p l' t' d'
 ·by_cases he : EndOk num den
  ·obtain ⟨hp, hb, hb'⟩ := h
   have hj := join_least hb hb'
   have s := Bal.sm hp hb
   have s' := Bal.sm hp hb'
   have hd : DistR p l t d l' t' d' = (distL p l t d l' t' d', 0) := by unfold DistR; rw [if_pos ⟨hp, hb, hb'⟩]
   refine ⟨hp, hb, hb', ?_⟩
   have E1 : HeightR p l t d l' t' d' num den = (if den = 0 then (l' - l, 0) else (l' - 2 * turnL p l' t' d' num den - l + 2 * turnL p l t d num den, 0)) := by unfold HeightR; rw [if_pos ⟨hp, hb, hb'⟩, if_pos he]
   have E2 : HeightR p l' t' d' l t d num den = (if den = 0 then (l - l', 0) else (l - 2 * turnL p l t d num den - l' + 2 * turnL p l' t' d' num den, 0)) := by unfold HeightR; rw [if_pos ⟨hp, hb', hb⟩, if_pos he]
   rw [hd, E1, E2]
   unfold distL
   by_cases h0 : den = 0
   ·rw [if_pos h0, if_pos h0]
    dsimp only
    exact ⟨by congr 1; omega, rfl, by omega, by omega, by omega, by omega, l - joinL p l t d l' t' d', by omega⟩
   ·rw [if_neg h0, if_neg h0]
    have t1 := turn_range hp hb he h0
    have t2 := turn_range hp hb' he h0
    have u1 := turn_tri (num := num) hp hb hb' h0
    have u2 := turn_tri (num := num) hp hb' hb h0
    rw [joinL_comm hp] at u2
    have v1 : turnL p l t d num den ≤ l := by unfold turnL mn; split <;> omega
    have v2 : turnL p l' t' d' num den ≤ l' := by unfold turnL mn; split <;> omega
    generalize turnL p l t d num den = x at *
    generalize turnL p l' t' d' num den = y at *
    generalize joinL p l t d l' t' d' = j at *
    have w1 : x ≤ y ∨ j ≤ y := by unfold mn at u1; split at u1 <;> omega
    have w2 : y ≤ x ∨ j ≤ x := by unfold mn at u2; split at u2 <;> omega
    dsimp only
    exact ⟨by congr 1; omega, rfl, by omega, by omega, by omega, by omega, l - j + y - x, by omega⟩
  ·unfold HeightR at hz; rw [if_pos h, if_neg he] at hz
   exact absurd hz (by simp)
 ·unfold HeightR at hz; rw [if_neg h] at hz
  exact absurd hz (by simp)
theorem mn_c (a b : Int) : (mn a b = a ∧ a ≤ b) ∨ (mn a b = b ∧ b ≤ a) := by unfold mn; split <;> omega
theorem mx_c (a b : Int) : (mx a b = a ∧ b ≤ a) ∨ (mx a b = b ∧ a ≤ b) := by unfold mx; split <;> omega
theorem med_num {la lb lc x y z : Int} (h1 : z ≤ lb ∧ z ≤ lc) (h2 : x ≤ la ∧ x ≤ lb) (h3 : y ≤ la ∧ y ≤ lc) (t1 : mn x z ≤ y) (t2 : mn y z ≤ x) (t3 : mn x y ≤ z) (hm : z > mx x y) :
  la + z - 2 * mn z x + (lb + z - 2 * mn z lb) = la + lb - 2 * x ∧ la + z - 2 * mn z x + (lc + z - 2 * mn z z) = la + lc - 2 * y ∧ lb + z - 2 * mn z lb + (lc + z - 2 * mn z z) = lb + lc - 2 * z := by
 have a1 := mn_c x z
 have a2 := mn_c y z
 have a3 := mn_c x y
 have a4 := mx_c x y
 have a5 := mn_c z x
 have a6 := mn_c z lb
 have a7 := mn_c z z
 omega
theorem med_num2 {la lb lc x y z : Int} (h1 : z ≤ lb ∧ z ≤ lc) (h2 : x ≤ la ∧ x ≤ lb) (h3 : y ≤ la ∧ y ≤ lc) (t1 : mn x z ≤ y) (t2 : mn y z ≤ x) (t3 : mn x y ≤ z) (hm : ¬ z > mx x y) :
  la + mx x y - 2 * mn (mx x y) la + (lb + mx x y - 2 * mn (mx x y) x) = la + lb - 2 * x ∧ la + mx x y - 2 * mn (mx x y) la + (lc + mx x y - 2 * mn (mx x y) y) = la + lc - 2 * y ∧ lb + mx x y - 2 * mn (mx x y) x + (lc + mx x y - 2 * mn (mx x y) y) = lb + lc - 2 * z := by
 have a1 := mn_c x z
 have a2 := mn_c y z
 have a3 := mn_c x y
 have a4 := mx_c x y
 have a5 := mn_c (mx x y) la
 have a6 := mn_c (mx x y) x
 have a7 := mn_c (mx x y) y
 omega
theorem med_law {p la ta da lb tb db lc tc dc : Int} (h : IsP p) (ha : Bal p la ta da) (hb : Bal p lb tb db) (hc : Bal p lc tc dc) :
  ∃ m t d, MedR p la ta da lb tb db lc tc dc = (m, t, d, 0) ∧ Bal p m t d ∧ distL p la ta da m t d + distL p lb tb db m t d = distL p la ta da lb tb db ∧
   distL p la ta da m t d + distL p lc tc dc m t d = distL p la ta da lc tc dc ∧ distL p lb tb db m t d + distL p lc tc dc m t d = distL p lb tb db lc tc dc := by
 have r1 := joinL_range ha hb
 have r2 := joinL_range ha hc
 have r3 := joinL_range hb hc
 have k1 := join_least ha hb
 have k2 := join_least ha hc
 have k3 := join_least hb hc
 have t1 := join_tri h ha hb hc
 have t2 := join_tri h ha hc hb
 have t3 := join_tri h hb ha hc
 have oa := join_own h ha
 have ob := join_own h hb
 have c1 := joinL_comm (p := p) (la := la) (ta := ta) (da := da) (lb := lb) (tb := tb) (db := db) h
 have c3 := joinL_comm (p := p) (la := lb) (ta := tb) (da := db) (lb := lc) (tb := tc) (db := dc) h
 rw [← c3] at t2
 rw [← c1] at t3
 unfold MedR
 rw [if_pos ⟨h, ha, hb, hc⟩]
 by_cases hm : joinL p lb tb db lc tc dc > medL p la ta da lb tb db lc tc dc
 ·rw [if_pos hm]
  have ea := join_at (n := joinL p lb tb db lc tc dc) h hb ha r3.1 k3.2.1
  have eb := join_at (n := joinL p lb tb db lc tc dc) h hb hb r3.1 k3.2.1
  have ec := join_at (n := joinL p lb tb db lc tc dc) h hb hc r3.1 k3.2.1
  refine ⟨_, _, _, rfl, ofM_bal h r3.1 r3.2 _, ?_⟩
  rw [ob] at eb
  rw [← c1] at ea
  unfold distL
  rw [joinL_comm (la := la) (ta := ta) (da := da) (lb := joinL p lb tb db lc tc dc) h, joinL_comm (la := lb) (ta := tb) (da := db) (lb := joinL p lb tb db lc tc dc) h, joinL_comm (la := lc) (lb := joinL p lb tb db lc tc dc) h, ea, eb, ec]
  clear c1 c3 oa ob ea eb ec
  unfold medL at hm
  exact med_num (by omega) (by omega) (by omega) t1 t2 t3 hm
 ·rw [if_neg hm]
  have hl : -6 ≤ medL p la ta da lb tb db lc tc dc ∧ medL p la ta da lb tb db lc tc dc ≤ la := by unfold medL mx; split <;> omega
  have ea := join_at (n := medL p la ta da lb tb db lc tc dc) h ha ha hl.1 hl.2
  have eb := join_at (n := medL p la ta da lb tb db lc tc dc) h ha hb hl.1 hl.2
  have ec := join_at (n := medL p la ta da lb tb db lc tc dc) h ha hc hl.1 hl.2
  have s := Bal.sm h ha
  refine ⟨_, _, _, rfl, ofM_bal h hl.1 (by omega) _, ?_⟩
  rw [oa] at ea
  unfold distL
  rw [joinL_comm (la := la) (ta := ta) (da := da) (lb := medL p la ta da lb tb db lc tc dc) h, joinL_comm (la := lb) (lb := medL p la ta da lb tb db lc tc dc) h, joinL_comm (la := lc) (lb := medL p la ta da lb tb db lc tc dc) h, ea, eb, ec]
  unfold medL at hm
  unfold medL
  clear c1 c3 oa ob ea eb ec
  exact med_num2 (by omega) (by omega) (by omega) t1 t2 t3 hm
theorem kids_filter {p l t d : Int} {P : S27 → Bool} (i0 : Int) (hP : ∀ j : Nat, (j : Int) < p → P ⟨(ChR p l t d j).1, (ChR p l t d j).2.1, (ChR p l t d j).2.2.1⟩ = decide ((j : Int) ≠ i0)) :
  ∀ (n i : Nat), (i : Int) + n ≤ p → (((kids p l t d i n).filter P).length : Int) + (if (i : Int) ≤ i0 ∧ i0 < (i : Int) + n then 1 else 0) = n := by
 intro n
 induction n with
 | zero =>
  intro i hi
  rw [show kids p l t d i 0 = [] from rfl, List.filter_nil, if_neg (by omega)]
  rfl
 | succ n ih =>
  intro i hi
  rw [show kids p l t d i (n + 1) = ⟨(ChR p l t d i).1, (ChR p l t d i).2.1, (ChR p l t d i).2.2.1⟩ :: kids p l t d (i + 1) n from rfl, List.filter_cons, hP i (by omega)]
  have hx := ih (i + 1) (by omega)
  by_cases h0 : (i : Int) ≠ i0
  ·rw [if_pos (decide_eq_true h0), List.length_cons]
   by_cases h1 : ((i + 1 : Nat) : Int) ≤ i0 ∧ i0 < ((i + 1 : Nat) : Int) + n
   ·rw [if_pos h1] at hx; rw [if_pos (by omega)]; omega
   ·rw [if_neg h1] at hx; rw [if_neg (by omega)]; omega
  ·rw [if_neg (by rw [decide_eq_true_eq]; exact h0)]
   rw [if_neg (by omega)] at hx
   rw [if_pos (by omega)]
   omega
theorem kid_join {p l t d l' t' d' : Int} (h : IsP p) (hb : Bal p l t d) (hb' : Bal p l' t' d') {c : S27} (hc : KidOf p l' t' d' c) :
  joinL p l t d l' t' d' ≤ joinL p l t d c.f0 c.f1 c.f2 ∧ joinL p l t d c.f0 c.f1 c.f2 ≤ l' + 1 ∧ (joinL p l t d l' t' d' < l' → joinL p l t d c.f0 c.f1 c.f2 = joinL p l t d l' t' d') := by
 obtain ⟨h1, h2, h3⟩ := hc
 have r := joinL_range hb hb'
 have q := joinL_range hb h1
 have hj := join_least hb hb'
 have hx := joinL_le (p := p) (la := l) (ta := t) (da := d) (lb := c.f0) (tb := c.f1) (db := c.f2)
 have a := (le_joinL (la := l) (ta := t) (da := d) (lb := l') (tb := t') (db := d') h r.1 r.2).1 (Int.le_refl _)
 have b := (le_joinL (la := l) (ta := t) (da := d) (lb := c.f0) (tb := c.f1) (db := c.f2) h q.1 q.2).1 (Int.le_refl _)
 have e : joinL p l t d l' t' d' ≤ joinL p l t d c.f0 c.f1 c.f2 := by
  refine (le_joinL h r.1 r.2).2 ⟨hj.2.1, by omega, ?_⟩
  have e1 := Int.dvd_trans (pow_dvd (p := p) (show (joinL p l t d l' t' d' + 6).toNat ≤ (l' + 6).toNat by omega)) h3
  have e2 := Int.dvd_sub a.2.2 e1
  rwa [show mk p t d - mk p t' d' - (mk p c.f1 c.f2 - mk p t' d') = mk p t d - mk p c.f1 c.f2 by omega] at e2
 refine ⟨e, by omega, fun hlt => ?_⟩
 have s := Bal.sm h hb'
 have hle : mn (joinL p l t d c.f0 c.f1 c.f2) l' ≤ joinL p l t d l' t' d' := by
  generalize hm : mn (joinL p l t d c.f0 c.f1 c.f2) l' = m
  have k0 : -6 ≤ m ∧ m ≤ 6 ∧ m ≤ joinL p l t d c.f0 c.f1 c.f2 ∧ m ≤ l' := by unfold mn at hm; split at hm <;> omega
  refine (le_joinL h k0.1 k0.2.1).2 ⟨by omega, k0.2.2.2, ?_⟩
  have e1 := Int.dvd_trans (pow_dvd (p := p) (show (m + 6).toNat ≤ (joinL p l t d c.f0 c.f1 c.f2 + 6).toNat by omega)) b.2.2
  have e2 := Int.dvd_trans (pow_dvd (p := p) (show (m + 6).toNat ≤ (l' + 6).toNat by omega)) h3
  have e3 := Int.dvd_add e1 e2
  rwa [show mk p t d - mk p c.f1 c.f2 + (mk p c.f1 c.f2 - mk p t' d') = mk p t d - mk p t' d' by omega] at e3
 unfold mn at hle
 split at hle <;> omega
theorem kid_toward {p l t d l' t' d' : Int} (h : IsP p) (hb : Bal p l t d) (hb' : Bal p l' t' d') (hl : l' ≠ 6) (hj : joinL p l t d l' t' d' = l') :
  ∃ q : Int, ∀ j : Nat, (j : Int) < p → (joinL p l t d (ChR p l' t' d' j).1 (ChR p l' t' d' j).2.1 (ChR p l' t' d' j).2.2.1 = l' + 1 ↔ l' + 1 ≤ l ∧ (j : Int) = q % p) := by
 have s := Bal.sm h hb'
 have r := joinL_range hb hb'
 have a := (le_joinL (la := l) (ta := t) (da := d) (lb := l') (tb := t') (db := d') h r.1 r.2).1 (Int.le_refl _)
 rw [hj] at a
 obtain ⟨q, hq⟩ := a.2.2
 refine ⟨q, fun j hjp => ?_⟩
 unfold ChR
 rw [if_neg hl]
 dsimp only
 have hkb := ofM_bal h (show -6 ≤ l' + 1 by omega) (show l' + 1 ≤ 6 by omega) (mk p t' d' + j * p ^ (l' + 6).toNat)
 have hx := joinL_le (p := p) (la := l) (ta := t) (da := d) (lb := l' + 1) (tb := ofMt p (l' + 1) (mk p t' d' + j * p ^ (l' + 6).toNat)) (db := (ofMd p (l' + 1) (mk p t' d' + j * p ^ (l' + 6).toNat) : Int))
 have hi := le_joinL (la := l) (ta := t) (da := d) (lb := l' + 1) (tb := ofMt p (l' + 1) (mk p t' d' + j * p ^ (l' + 6).toNat)) (db := (ofMd p (l' + 1) (mk p t' d' + j * p ^ (l' + 6).toNat) : Int)) h (show -6 ≤ l' + 1 by omega) (show l' + 1 ≤ 6 by omega)
 have hd := at_dvd (x := mk p t' d' + j * p ^ (l' + 6).toNat) (n := l' + 1) h
 have ep : p ^ (l' + 1 + 6).toNat = p ^ (l' + 6).toNat * p := by rw [show (l' + 1 + 6).toNat = (l' + 6).toNat + 1 by omega, Int.pow_succ]
 have hp0 := pow_ne' h (l' + 6).toNat
 have key : p ^ (l' + 1 + 6).toNat ∣ mk p t d - mk p (ofMt p (l' + 1) (mk p t' d' + j * p ^ (l' + 6).toNat)) (ofMd p (l' + 1) (mk p t' d' + j * p ^ (l' + 6).toNat)) ↔ p ∣ q - j := by
  generalize mk p (ofMt p (l' + 1) (mk p t' d' + j * p ^ (l' + 6).toNat)) (ofMd p (l' + 1) (mk p t' d' + j * p ^ (l' + 6).toNat)) = m at *
  have e1 : mk p t d - m = p ^ (l' + 6).toNat * (q - j) + (mk p t' d' + j * p ^ (l' + 6).toNat - m) := by
   rw [Int.mul_sub, ← hq, Int.mul_comm (p ^ (l' + 6).toNat) (j : Int)]; omega
  rw [e1]
  constructor
  ·intro h1
   have h2 := Int.dvd_sub h1 hd
   rw [Int.add_sub_cancel, ep] at h2
   exact dvd_cancel hp0 h2
  ·intro h1
   refine Int.dvd_add ?_ hd
   rw [ep]
   exact Int.mul_dvd_mul_left _ h1
 have hpos := h.pos
 have hmod : p ∣ q - j ↔ (j : Int) = q % p := by
  constructor
  ·intro h1
   have := emod_eq_of_dvd h1
   rw [this, Int.emod_eq_of_lt (by omega) hjp]
  ·intro h1
   rw [h1]
   have := dvd_emod_sub q p
   have := Int.dvd_neg.2 this
   rwa [show -(q % p - q) = q - q % p by omega] at this
 constructor
 ·intro h1
  obtain ⟨z1, _, z3⟩ := hi.1 (by omega)
  exact ⟨z1, hmod.1 (key.1 z3)⟩
 ·rintro ⟨z1, z2⟩
  have := hi.2 ⟨z1, Int.le_refl _, key.2 (hmod.2 z2)⟩
  omega
theorem near_count {p : Int} {b x : S27} {n : Int} (h : IsP p) (hb : BalB p b) (hx : BalB p x) (hk : (nearB p x).2 = true) (hn : distB p b x = n) :
  (((nearB p x).1.filter (fun c => decide (distB p b c = n + 1))).length : Int) = if n = 0 then p + 1 else p := by
 obtain ⟨l, t, d⟩ := b
 obtain ⟨l', t', d'⟩ := x
 have hb1 : Bal p l t d := hb
 have hb2 : Bal p l' t' d' := hx
 have s1 := Bal.sm h hb1
 have s2 := Bal.sm h hb2
 have hpos := h.two_le
 have hn1 : l + l' - 2 * joinL p l t d l' t' d' = n := hn
 have hj := join_least hb1 hb2
 have hc : (ParR p l' t' d').2.2.2 = true ∧ l' ≠ 6 := by
  by_cases hc : (ParR p l' t' d').2.2.2 = true ∧ l' ≠ 6
  ·exact hc
  ·have : (NearR p l' t' d').2 = true := hk
   unfold NearR at this; rw [if_neg hc] at this
   exact absurd this (by simp)
 have el : (nearB p ⟨l', t', d'⟩).1 = parL p l' t' d' :: kids p l' t' d' 0 p.toNat := by
  show (NearR p l' t' d').1 = _
  unfold NearR; rw [if_pos hc]
 rw [el, List.filter_cons]
 have hpl : -6 ≤ l' - 1 := by
  by_cases hz : -6 ≤ l' - 1 ∧ l' - 1 ≤ 6
  ·exact hz.1
  ·have := hc.1; unfold ParR at this; rw [if_neg hz] at this
   exact absurd this (by simp)
 have hpar : distB p ⟨l, t, d⟩ (parL p l' t' d') = l + (l' - 1) - 2 * mn (l' - 1) (joinL p l t d l' t' d') := by
  have e := join_at (n := l' - 1) h hb2 hb1 hpl (by omega)
  have ep : parL p l' t' d' = ⟨l' - 1, ofMt p (l' - 1) (mk p t' d'), (ofMd p (l' - 1) (mk p t' d') : Int)⟩ := by
   unfold parL ParR; rw [if_pos (show -6 ≤ l' - 1 ∧ l' - 1 ≤ 6 by omega)]
  rw [ep]
  show l + (l' - 1) - 2 * joinL p l t d (l' - 1) (ofMt p (l' - 1) (mk p t' d')) (ofMd p (l' - 1) (mk p t' d')) = _
  rw [joinL_comm h, e, joinL_comm (la := l') h]
 have hkid : ∀ j : Nat, KidOf p l' t' d' ⟨(ChR p l' t' d' j).1, (ChR p l' t' d' j).2.1, (ChR p l' t' d' j).2.2.1⟩ := by
  intro j
  refine kidOf h hb2 hc.2 (n := 1) (i := j) ?_
  rw [show kids p l' t' d' j 1 = [⟨(ChR p l' t' d' j).1, (ChR p l' t' d' j).2.1, (ChR p l' t' d' j).2.2.1⟩] from rfl]
  simp
 have hkd : ∀ j : Nat, distB p ⟨l, t, d⟩ ⟨(ChR p l' t' d' j).1, (ChR p l' t' d' j).2.1, (ChR p l' t' d' j).2.2.1⟩ = l + (l' + 1) - 2 * joinL p l t d (ChR p l' t' d' j).1 (ChR p l' t' d' j).2.1 (ChR p l' t' d' j).2.2.1 := by
  intro j
  have e : (ChR p l' t' d' j).1 = l' + 1 := by unfold ChR; rw [if_neg hc.2]
  show l + (ChR p l' t' d' j).1 - 2 * joinL p l t d (ChR p l' t' d' j).1 (ChR p l' t' d' j).2.1 (ChR p l' t' d' j).2.2.1 = _
  rw [e]
 have fin : ∀ (i0 : Int) (hP : ∀ j : Nat, (j : Int) < p → decide (distB p ⟨l, t, d⟩ ⟨(ChR p l' t' d' j).1, (ChR p l' t' d' j).2.1, (ChR p l' t' d' j).2.2.1⟩ = n + 1) = decide ((j : Int) ≠ i0)),
   (((kids p l' t' d' 0 p.toNat).filter (fun c => decide (distB p ⟨l, t, d⟩ c = n + 1))).length : Int) + (if 0 ≤ i0 ∧ i0 < p then 1 else 0) = p := by
  intro i0 hP
  have := kids_filter (P := fun c => decide (distB p ⟨l, t, d⟩ c = n + 1)) i0 hP p.toNat 0 (by omega)
  rw [show (((0 : Nat) : Int) + (p.toNat : Int)) = p by omega, show ((0 : Nat) : Int) = 0 from rfl, show (p.toNat : Int) = p by omega] at this
  exact this
 by_cases hlt : joinL p l t d l' t' d' < l'
 ·have h1 : ¬ distB p ⟨l, t, d⟩ (parL p l' t' d') = n + 1 := by rw [hpar]; unfold mn; split <;> omega
  rw [if_neg (by rw [decide_eq_true_eq]; exact h1), if_neg (show ¬ n = 0 by omega)]
  have := fin (-1) (fun j _ => by
   rw [decide_eq_true (show (j : Int) ≠ -1 by omega)]
   refine decide_eq_true ?_
   have e := (kid_join h hb1 hb2 (hkid j)).2.2 hlt
   rw [hkd j]
   have e' : joinL p l t d (ChR p l' t' d' j).1 (ChR p l' t' d' j).2.1 (ChR p l' t' d' j).2.2.1 = joinL p l t d l' t' d' := e
   omega)
  rw [if_neg (by omega)] at this
  omega
 ·have hjl : joinL p l t d l' t' d' = l' := by omega
  have h1 : distB p ⟨l, t, d⟩ (parL p l' t' d') = n + 1 := by rw [hpar]; unfold mn; split <;> omega
  rw [if_pos (decide_eq_true h1), List.length_cons]
  obtain ⟨q, hq⟩ := kid_toward h hb1 hb2 hc.2 hjl
  have hqp := Int.emod_nonneg q (show p ≠ 0 by omega)
  have hqp' := Int.emod_lt_of_pos q (show 0 < p by omega)
  have step : ∀ j : Nat, (j : Int) < p → (distB p ⟨l, t, d⟩ ⟨(ChR p l' t' d' j).1, (ChR p l' t' d' j).2.1, (ChR p l' t' d' j).2.2.1⟩ = n + 1 ↔ ¬ (l' + 1 ≤ l ∧ (j : Int) = q % p)) := by
   intro j hjp
   have e := kid_join h hb1 hb2 (hkid j)
   have e1 : joinL p l t d l' t' d' ≤ joinL p l t d (ChR p l' t' d' j).1 (ChR p l' t' d' j).2.1 (ChR p l' t' d' j).2.2.1 := e.1
   have e2 : joinL p l t d (ChR p l' t' d' j).1 (ChR p l' t' d' j).2.1 (ChR p l' t' d' j).2.2.1 ≤ l' + 1 := e.2.1
   rw [hkd j, ← hq j hjp]
   omega
  by_cases h0 : n = 0
  ·rw [if_pos h0]
   have := fin (-1) (fun j hjp => by
    rw [decide_eq_true (show (j : Int) ≠ -1 by omega)]
    exact decide_eq_true ((step j hjp).2 (by omega)))
   rw [if_neg (by omega)] at this
   omega
  ·rw [if_neg h0]
   have := fin (q % p) (fun j hjp => by
    refine decide_eq_decide.2 ?_
    rw [step j hjp]
    have : l' + 1 ≤ l := by omega
    simp only [this, true_and, ne_eq])
   rw [if_pos ⟨hqp, hqp'⟩] at this
   omega
theorem step_count {p : Int} {b : S27} {n : Int} (h : IsP p) (hb : BalB p b) : ∀ (xs acc ys : List S27), (∀ c ∈ xs, BalB p c ∧ distB p b c = n) → StepL p b (n + 1) acc xs = some ys → (ys.length : Int) = acc.length + xs.length * (if n = 0 then p + 1 else p) := by
 intro xs
 induction xs with
 | nil =>
  intro acc ys _ e
  obtain rfl := Option.some.inj e
  simp
 | cons x xs ih =>
  intro acc ys hx e
  rw [StepL] at e
  by_cases hn : (nearB p x).2 = true
  ·rw [if_pos hn] at e
   have h1 := ih _ ys (fun c hc => hx c (List.mem_cons_of_mem _ hc)) e
   have hxx := hx x (by simp)
   have h2 := near_count h hb hxx.1 hn hxx.2
   rw [List.length_append] at h1
   rw [List.length_cons]
   have h3 : ((xs.length + 1 : Nat) : Int) * (if n = 0 then p + 1 else p) = xs.length * (if n = 0 then p + 1 else p) + (if n = 0 then p + 1 else p) := by
    rw [show ((xs.length + 1 : Nat) : Int) = (xs.length : Int) + 1 by omega, Int.add_mul, Int.one_mul]
   rw [h3]
   generalize (xs.length : Int) * (if n = 0 then p + 1 else p) = z at *
   generalize (if n = 0 then p + 1 else p) = w at *
   omega
  ·rw [if_neg hn] at e; exact absurd e (by simp)
theorem run_count {p : Int} {b : S27} (h : IsP p) (hb : BalB p b) : ∀ (k : Nat) (n : Int) (m : Nat) (xs ys : List S27), 1 ≤ n → Ring p b n m xs → RunL p b k (n + 1) xs = some ys → (ys.length : Int) = xs.length * p ^ k := by
 intro k
 induction k with
 | zero =>
  intro n m xs ys _ _ e
  obtain rfl := Option.some.inj e
  simp
 | succ k ih =>
  intro n m xs ys n1 hr e
  rw [RunL] at e
  obtain ⟨zs, e1, e2⟩ := Option.bind_eq_some_iff.1 e
  have h1 := ih (n + 1) (8 * m) zs ys (by omega) (ring_next h hr e1) e2
  have h2 := step_count h hb xs [] zs hr.2 e1
  rw [if_neg (show ¬ n = 0 by omega), List.length_nil] at h2
  rw [h1, h2, Int.pow_succ, Int.mul_comm (p ^ k) p, ← Int.mul_assoc]
  congr 1
  omega
theorem sphere_law {p l t d r : Int} (hz : (SphereR p l t d r).2 = 0) : IsP p ∧ Bal p l t d ∧ (CountR p r).2 = 0 ∧ (CountR p r).1 = ((SphereR p l t d r).1.length : Int) ∧ ∀ c ∈ (SphereR p l t d r).1, BalB p c ∧ distB p ⟨l, t, d⟩ c = r := by
 by_cases h : IsP p ∧ Bal p l t d
 ·by_cases hr : 0 ≤ r ∧ r ≤ 4
  ·unfold SphereR at hz ⊢
   rw [if_pos h, if_pos hr] at hz ⊢
   cases e : RunL p ⟨l, t, d⟩ r.toNat 1 [⟨l, t, d⟩] with
   | none => rw [e] at hz; exact absurd hz (by simp)
   | some ys =>
    have hg := run_ring h.1 r.toNat 0 1 [⟨l, t, d⟩] ys (ring_one h.2 h.1) e
    dsimp only
    refine ⟨h.1, h.2, ?_, ?_, ?_⟩
    ·unfold CountR; rw [if_pos h.1, if_pos (show 0 ≤ r ∧ r ≤ 20 by omega)]; split <;> rfl
    ·unfold CountR
     rw [if_pos h.1, if_pos (show 0 ≤ r ∧ r ≤ 20 by omega)]
     by_cases h0 : r = 0
     ·subst h0
      obtain rfl := Option.some.inj e
      rfl
     ·rw [if_neg h0]
      obtain ⟨k, hk⟩ : ∃ k : Nat, r.toNat = k + 1 := ⟨r.toNat - 1, by omega⟩
      rw [hk, RunL] at e
      obtain ⟨zs, e1, e2⟩ := Option.bind_eq_some_iff.1 e
      have h1 := run_count (b := ⟨l, t, d⟩) h.1 h.2 k 1 (8 * 1) zs ys (by omega) (ring_next (n := 0) h.1 (ring_one h.2 h.1) e1) e2
      have h2 := step_count (b := ⟨l, t, d⟩) (n := 0) h.1 h.2 [⟨l, t, d⟩] [] zs (ring_one h.2 h.1).2 e1
      rw [if_pos rfl, List.length_nil, List.length_singleton] at h2
      have h3 : (zs.length : Int) = p + 1 := by omega
      rw [h1, h3, show (r - 1).toNat = k by omega]
    ·intro c hc
     have := hg.2 c hc
     rw [show (0 : Int) + (r.toNat : Int) = r by omega] at this
     exact this
  ·unfold SphereR at hz; rw [if_pos h, if_neg hr] at hz
   exact absurd hz (by simp)
 ·unfold SphereR at hz; rw [if_neg h] at hz
  exact absurd hz (by simp)
theorem near20_eq {l : List Int} {c h : Int} (hs : Src l c) : ∃ x c' h', spec_l01Near.f l c h 20 = some (x, c', h') ∧ Src l c' := by
 unfold spec_l01Near.f
 obtain ⟨x1, c1, h1, e1, r1, s1⟩ := next_eq (h := h) hs (show (1 : Int) ≤ 14 by omega)
 have ew : wrap64 ((20 : Int) + 1) = 21 := wrap_id (by omega) (by omega)
 simp only [e1, Option.bind_some, ew]
 by_cases hz : x1 = 0
 ·obtain ⟨y, c2, h2, e2, r2, s2⟩ := pick_eq (h := h1) (xs := [-1, 21, 1099511627776, -4611686018427387904]) s1 (by simp) (by simp)
  simp only [if_pos hz, e2, Option.bind_some]
  exact ⟨_, _, _, rfl, s2⟩
 ·obtain ⟨y, c2, h2, e2, r2, s2⟩ := next_eq (h := h1) s1 (show (1 : Int) ≤ 21 by omega)
  simp only [if_neg hz, e2, Option.bind_some]
  exact ⟨_, _, _, rfl, s2⟩
theorem pow_small {p e : Int} (hp : IsP p) (h : 0 ≤ e ∧ e ≤ 8) : 0 ≤ p ^ e.toNat ∧ p ^ e.toNat ≤ 5764801 := by
 have h1 := pow_pos' hp e.toNat
 have h2 := pow_le_seven hp (m := e.toNat) (n := 8) (by omega)
 have e8 : (7 : Int) ^ 8 = 5764801 := by decide
 omega
theorem drawEnd_ev {l : List Int} {c h : Int} (hs : Src l c) : ∃ n d c' h', Ev (fun k => spec_l01DrawEnd.f k l c h) (n, d, c', h') ∧ Src l c' := by
 have p2 : IsP 2 := by unfold IsP; omega
 have p3 : IsP 3 := by unfold IsP; omega
 obtain ⟨x1, c1, h1, e1, r1, s1⟩ := next_eq (h := h) hs (show (1 : Int) ≤ 30 by omega)
 have go : ∀ b : Bool, ∃ n d c' h', Ev (fun k => spec_l01DrawEnd.j0 k x1 b l c1 h1) (n, d, c', h') ∧ Src l c' := by
  intro b
  cases b with
  | true =>
   refine ⟨1, 0, c1, h1, Ev.step (fun k => by rw [spec_l01DrawEnd.j0]) ?_, s1⟩
   simp only [if_true]
   exact Ev.now _
  | false =>
   by_cases hz : x1 = 2
   ·obtain ⟨y, c2, h2, e2, r2, s2⟩ := pick_eq (h := h1) (xs := [2, 0, 1000001]) s1 (by simp) (by simp)
    obtain ⟨z, c3, h3, e3, r3, s3⟩ := pick_eq (h := h2) (xs := [0, 4, -1]) s2 (by simp) (by simp)
    refine ⟨y, z, c3, h3, Ev.step (fun k => by rw [spec_l01DrawEnd.j0]) ?_, s3⟩
    simp only [if_neg Bool.false_ne_true, if_pos hz, e2, e3, Option.bind_some]
    exact Ev.now _
   ·obtain ⟨x2, c2, h2, e2, r2, s2⟩ := next_eq (h := h1) s1 (show (1 : Int) ≤ 20 by omega)
    obtain ⟨x3, c3, h3, e3, r3, s3⟩ := next_eq (h := h2) s2 (show (1 : Int) ≤ 200 by omega)
    obtain ⟨x4, c4, h4, e4, r4, s4⟩ := next_eq (h := h3) s3 (show (1 : Int) ≤ 2000001 by omega)
    obtain ⟨n, c5, h5, e5, r5, s5⟩ := pick_eq (h := h4) (xs := [wrap64 (x2 - 10), wrap64 (x3 - 100), wrap64 (x4 - 1000000)]) s4 (by simp) (by simp)
    obtain ⟨x6, c6, h6, e6, r6, s6⟩ := next_eq (h := h5) s5 (show (1 : Int) ≤ 20 by omega)
    obtain ⟨x7, c7, h7, e7, r7, s7⟩ := next_eq (h := h6) s6 (show (1 : Int) ≤ 8 by omega)
    obtain ⟨x8, c8, h8, e8, r8, s8⟩ := next_eq (h := h7) s7 (show (1 : Int) ≤ 6 by omega)
    obtain ⟨x9, c9, h9, e9, r9, s9⟩ := next_eq (h := h8) s8 (show (1 : Int) ≤ 1000000 by omega)
    obtain ⟨d, c10, h10, e10, r10, s10⟩ := pick_eq (h := h9) (xs := [1, 1, wrap64 (1 + x6), 2 ^ x7.toNat, 3 ^ x8.toNat, wrap64 (1 + x9)]) s9 (by simp) (by simp)
    have q2 := pow_small p2 (e := x7) (by omega)
    have q3 := pow_small p3 (e := x8) (by omega)
    have hn : n.natAbs ≤ 9223372036854775807 := by
     rw [wrap_id (x := x2 - 10) (by omega) (by omega), wrap_id (x := x3 - 100) (by omega) (by omega), wrap_id (x := x4 - 1000000) (by omega) (by omega)] at r5
     simp only [List.mem_cons, List.not_mem_nil, or_false] at r5
     omega
    have hd : d.natAbs ≤ 9223372036854775807 := by
     rw [wrap_id (x := 1 + x6) (by omega) (by omega), wrap_id (x := 1 + x9) (by omega) (by omega)] at r10
     simp only [List.mem_cons, List.not_mem_nil, or_false] at r10
     omega
    refine ⟨(EAt n d).1, (EAt n d).2.1, c10, h10, Ev.step (fun k => by rw [spec_l01DrawEnd.j0]) ?_, s10⟩
    simp only [if_neg Bool.false_ne_true, if_neg hz, e2, e3, e4, e5, e6, e7, Option.bind_some]
    rw [bnd (l01Power_ev p2 (show x7 ≤ 22 by omega))]
    simp only [e8, Option.bind_some]
    rw [bnd (l01Power_ev p3 (show x8 ≤ 22 by omega))]
    simp only [e9, e10, Option.bind_some]
    rw [bnd (l01EndOf_ev hn hd)]
    exact Ev.now _
 unfold spec_l01DrawEnd.f
 simp only [e1, Option.bind_some]
 by_cases hz : x1 = 0
 ·obtain ⟨n, d, c', h', e, s⟩ := go (x1 == 0)
  exact ⟨n, d, c', h', by simp only [if_pos hz]; exact e, s⟩
 ·obtain ⟨n, d, c', h', e, s⟩ := go (x1 == 1)
  exact ⟨n, d, c', h', by simp only [if_neg hz]; exact e, s⟩
theorem med_l0 {x3 x8 p r t h4 c4 a0 a1 a2 b0 b1 b2 c0 c1 c2 m0 m1 m2 d0 d1 d2 f0 f1 f2 g0 g1 g2 e0 e1 : Int} (hp : IsP p) (hb : Bal p d0 d1 d2)
  (h6 : Ev (fun k => laws_FnMedians.j6 k x3 x8 t h4 c4 a0 a1 a2 b0 b1 b2 c0 c1 c2 m0 m1 m2 f0 f1 f2 g0 g1 g2 e0 e1) true) :
  ∀ (ys pre : List S27), (pre ++ ys).length ≤ 5000 → (∀ c ∈ ys, BalB p c ∧ distB p ⟨d0, d1, d2⟩ c = r) →
  Ev (fun k => laws_FnMedians.l0 k x3 x8 p r (pre ++ ys) t h4 c4 pre.length a0 a1 a2 b0 b1 b2 c0 c1 c2 m0 m1 m2 d0 d1 d2 f0 f1 f2 g0 g1 g2 e0 e1) true := by
 intro ys
 induction ys with
 | nil =>
  intro pre _ _
  refine Ev.step (fun k => by rw [laws_FnMedians.l0]) ?_
  simp only [List.append_nil, if_neg (Int.lt_irrefl _)]
  exact h6
 | cons y ys ih =>
  intro pre hl hy
  have hyy := hy y (by simp)
  have hby : Bal p y.f0 y.f1 y.f2 := hyy.1
  have s1 := Bal.sm hp hb
  have s2 := Bal.sm hp hby
  refine Ev.step (fun k => by rw [laws_FnMedians.l0]) ?_
  have hlt : (pre.length : Int) < ((pre ++ y :: ys).length : Int) := by rw [List.length_append, List.length_cons]; omega
  have hl' : pre.length ≤ 5000 := by rw [List.length_append] at hl; omega
  have e2 : wrap64 ((pre.length : Int) + 1) = ((pre ++ [y]).length : Int) := by rw [wrap_id (by omega) (by omega)]; simp
  simp only [if_pos hlt, if_pos (show (0 : Int) ≤ (pre.length : Int) by omega), rd_ball_at, e2]
  rw [bnd (implTreeDistance_ev (by omega) (by omega) (by omega) (by omega))]
  have ed : DistR p d0 d1 d2 y.f0 y.f1 y.f2 = (r, 0) := by
   unfold DistR
   rw [if_pos ⟨hp, hb, hby⟩]
   exact Prod.ext hyy.2 rfl
  simp only [ed, if_true]
  have es : pre ++ y :: ys = (pre ++ [y]) ++ ys := by simp
  rw [es] at hl ⊢
  exact ih (pre ++ [y]) hl (fun c hc => hy c (List.mem_cons_of_mem _ hc))
theorem med_j7 {p a0 a1 a2 b0 b1 b2 c0 c1 c2 : Int} (ha : SmB a0 a1 a2) (hb : SmB b0 b1 b2) (hc : SmB c0 c1 c2) :
  Ev (fun k => laws_FnMedians.j7 k p (MedR p a0 a1 a2 b0 b1 b2 c0 c1 c2).2.2.2 a0 a1 a2 b0 b1 b2 c0 c1 c2 (MedR p a0 a1 a2 b0 b1 b2 c0 c1 c2).1 (MedR p a0 a1 a2 b0 b1 b2 c0 c1 c2).2.1 (MedR p a0 a1 a2 b0 b1 b2 c0 c1 c2).2.2.1) true := by
 unfold SmB Sm at ha hb hc
 refine Ev.step (fun k => by rw [laws_FnMedians.j7]) ?_
 by_cases h : IsP p ∧ Bal p a0 a1 a2 ∧ Bal p b0 b1 b2 ∧ Bal p c0 c1 c2
 ·obtain ⟨hp, ba, bb, bc⟩ := h
  obtain ⟨m, t, d, em, bm, q1, q2, q3⟩ := med_law hp ba bb bc
  have sm := Bal.sm hp bm
  rw [em]
  simp only [if_true]
  rw [bnd (implTreeDistance_ev (by omega) (by omega) (by omega) (by omega)), bnd (implTreeDistance_ev (by omega) (by omega) (by omega) (by omega)), bnd (implTreeDistance_ev (by omega) (by omega) (by omega) (by omega)),
   bnd (implTreeDistance_ev (by omega) (by omega) (by omega) (by omega)), bnd (implTreeDistance_ev (by omega) (by omega) (by omega) (by omega)), bnd (implTreeDistance_ev (by omega) (by omega) (by omega) (by omega))]
  have dd : ∀ {x0 x1 x2 y0 y1 y2 : Int}, Bal p x0 x1 x2 → Bal p y0 y1 y2 → DistR p x0 x1 x2 y0 y1 y2 = (distL p x0 x1 x2 y0 y1 y2, 0) ∧ -100 ≤ distL p x0 x1 x2 y0 y1 y2 ∧ distL p x0 x1 x2 y0 y1 y2 ≤ 100 := by
   intro x0 x1 x2 y0 y1 y2 hx hy
   have r1 := joinL_range hx hy
   have u1 := Bal.sm hp hx
   have u2 := Bal.sm hp hy
   refine ⟨by unfold DistR; rw [if_pos ⟨hp, hx, hy⟩], ?_⟩
   unfold distL; omega
  have e1 := dd ba bb
  have e2 := dd ba bc
  have e3 := dd bb bc
  have e4 := dd ba bm
  have e5 := dd bb bm
  have e6 := dd bc bm
  simp only [e1.1, e2.1, e3.1, e4.1, e5.1, e6.1, if_true]
  rw [wrap_id (x := distL p a0 a1 a2 m t d + distL p b0 b1 b2 m t d) (by omega) (by omega), wrap_id (x := distL p a0 a1 a2 m t d + distL p c0 c1 c2 m t d) (by omega) (by omega), wrap_id (x := distL p b0 b1 b2 m t d + distL p c0 c1 c2 m t d) (by omega) (by omega), q1, q2, q3]
  simp only [if_true, beq_self_eq_true]
  exact Ev.now _
 ·have em : MedR p a0 a1 a2 b0 b1 b2 c0 c1 c2 = (0, 0, 0, 1) := by unfold MedR; rw [if_neg h]
  rw [em]
  simp only [if_neg (show ¬ (1 : Int) = 0 by omega), beq_self_eq_true, Bool.and_self]
  exact Ev.now _
theorem med_j6 {x3 x8 p f0 f1 f2 g0 g1 g2 e0 e1 a0 a1 a2 b0 b1 b2 c0 c1 c2 m0 m1 m2 : Int} (hf : SmB f0 f1 f2) (hg : SmB g0 g1 g2)
  (h7 : Ev (fun k => laws_FnMedians.j7 k x3 x8 a0 a1 a2 b0 b1 b2 c0 c1 c2 m0 m1 m2) true) :
  Ev (fun k => laws_FnMedians.j6 k x3 x8 p (HeightR p f0 f1 f2 g0 g1 g2 e0 e1).1 (HeightR p f0 f1 f2 g0 g1 g2 e0 e1).2 a0 a1 a2 b0 b1 b2 c0 c1 c2 m0 m1 m2 f0 f1 f2 g0 g1 g2 e0 e1) true := by
 unfold SmB Sm at hf hg
 refine Ev.step (fun k => by rw [laws_FnMedians.j6]) ?_
 by_cases hz : (HeightR p f0 f1 f2 g0 g1 g2 e0 e1).2 = 0
 ·obtain ⟨hp, b1, b2, q1, q2, q3, q4, q5, q6, e, q7⟩ := height_law hz
  simp only [if_pos hz]
  rw [bnd (implHeightOver_ev (by omega) (by omega) (by omega) (by omega)), bnd (implTreeDistance_ev (by omega) (by omega) (by omega) (by omega)), q1, q2]
  generalize (HeightR p f0 f1 f2 g0 g1 g2 e0 e1).1 = x at *
  generalize distL p f0 f1 f2 g0 g1 g2 = y at *
  rw [wrap_id (x := -x) (by omega) (by omega), wrap_id (x := y - x) (by omega) (by omega)]
  have em : ¬ mx x (-x) > y := by unfold mx; split <;> omega
  have et : Int.tmod (y - x) 2 = 0 := by rw [q7]; exact Int.mul_tmod_right 2 e
  simp only [if_true, if_neg em, et]
  exact h7
 ·simp only [if_neg hz]
  exact h7
theorem FnMedians : laws_FnMedians.Pure := by
 intro l0 hl0 hl1 hbytes
 refine Ev.rounds (g := fun k => laws_FnMedians.f k l0) ?_
 unfold laws_FnMedians.f laws_big.f
 simp only [Option.bind_some]
 by_cases hbig : (l0.length : Int) > 4096
 ·simp only [decide_eq_true hbig, if_true]
  exact Ev.now _
 ·simp only [decide_eq_false hbig, if_neg Bool.false_ne_true]
  obtain ⟨h0, e0, s0⟩ := from_ev hbytes (by omega)
  obtain ⟨p, a0, a1, a2, b0, b1, b2, c1, h1, u1, hp, ha, hb, s1⟩ := two_ev (h := h0) s0
  obtain ⟨c0, c1', c2', c3, h3, u2, hc, s2⟩ := drawBall_ev (h := h1) (fine_ok p) s1
  have hdraw : Ev (fun k => spec_DrawMedianOf.f k l0) (p, a0, a1, a2, b0, b1, b2, c0, c1', c2') := by
   unfold spec_DrawMedianOf.f
   rw [bnd e0, bnd u1]
   simp only [fine_eq, Option.bind_some]
   rw [bnd u2]; exact Ev.now _
  have hcs : SmB c0 c1' c2' := by have := Bal.sm (fine_ok p) hc; unfold SmB Sm; omega
  have hj7 := med_j7 (p := p) ha hb hcs
  obtain ⟨q, d0, d1, d2, c4, h4, u4, hq, hd, s4⟩ := spoil_ev (h := h0) s0
  have hsph : ∃ r, Ev (fun k => spec_DrawSphereAround.f k l0) (q, d0, d1, d2, r) := by
   obtain ⟨r, c5, h5, u5, r5, s5⟩ := pick_eq (h := h4) (xs := [0, 1, 1, 2, 2, 3, 5]) s4 (by simp) (by simp)
   have start : ∀ z, Ev (fun _ : Nat => if q > 3 then some (q, d0, d1, d2, mn r 2) else some (q, d0, d1, d2, r)) z → Ev (fun k => spec_DrawSphereAround.f k l0) z := by
    intro z hz
    unfold spec_DrawSphereAround.f
    rw [bnd e0, bnd u4]
    simp only [u5, Option.bind_some]
    exact hz
   by_cases h3 : q > 3
   ·exact ⟨mn r 2, start _ (by simp only [if_pos h3]; exact Ev.now _)⟩
   ·exact ⟨r, start _ (by simp only [if_neg h3]; exact Ev.now _)⟩
  obtain ⟨r, hsph⟩ := hsph
  have hcnt : ∃ v n, Ev (fun k => spec_DrawCountOfSphere.f k l0) (v, n) := by
   obtain ⟨v, c5, h5, u5, r5, s5⟩ := pick_eq (h := h0) (xs := [2, 3, 5, 7, 4]) s0 (by simp) (by simp)
   obtain ⟨n, c6, h6, u6, s6⟩ := near20_eq (h := h5) s5
   refine ⟨v, n, ?_⟩
   unfold spec_DrawCountOfSphere.f
   rw [bnd e0]
   simp only [u5, u6, Option.bind_some]
   exact Ev.now _
  obtain ⟨v, n, hcnt⟩ := hcnt
  obtain ⟨t, f0, f1, f2, g0, g1, g2, c7, h7, u7, ht, hf, hg, s7⟩ := two_ev (h := h0) s0
  obtain ⟨n0, n1, c8, h8, u8, s8⟩ := drawEnd_ev (h := h7) s7
  have hhei : Ev (fun k => spec_DrawHeightOver.f k l0) (t, f0, f1, f2, g0, g1, g2, n0, n1) := by
   unfold spec_DrawHeightOver.f
   rw [bnd e0, bnd u7, bnd u8]; exact Ev.now _
  have hj6 := med_j6 (p := t) (e0 := n0) (e1 := n1) hf hg hj7
  have ha' := ha
  have hb' := hb
  have hc' := hcs
  have hd' := hd
  have hf' := hf
  have hg' := hg
  unfold SmB Sm at ha' hb' hc' hd' hf' hg'
  rw [bnd hdraw]
  dsimp only
  rw [bnd (implMedianOf_ev (by omega) (by omega) (by omega) (by omega) (by omega) (by omega)), bnd (specMedianOf_ev (by omega) (by omega) (by omega) (by omega) (by omega) (by omega))]
  simp only [if_true, beq_self_eq_true, Bool.not_true, Bool.or_self]
  refine Ev.step (fun k => by rw [laws_FnMedians.j0]) ?_
  simp only [if_neg Bool.false_ne_true]
  have hlen := SphereR_length q d0 d1 d2 r
  rw [bnd hsph]
  dsimp only
  rw [bnd (implSphereAround_ev (by omega) (by omega)), bnd (specSphereAround_ev (by omega) (by omega))]
  simp only [if_true]
  rw [bnd (balls9_ev _ (by omega))]
  simp only [Bool.not_true]
  refine Ev.step (fun k => by rw [laws_FnMedians.j1]) ?_
  simp only [if_neg Bool.false_ne_true]
  rw [bnd hcnt]
  dsimp only
  rw [bnd implCountOfSphere_ev, bnd specCountOfSphere_ev]
  simp only [if_true, bne_self_eq_false]
  refine Ev.step (fun k => by rw [laws_FnMedians.j2]) ?_
  simp only [if_neg Bool.false_ne_true]
  rw [bnd hhei]
  dsimp only
  rw [bnd (implHeightOver_ev (by omega) (by omega) (by omega) (by omega)), bnd (specHeightOver_ev (by omega) (by omega) (by omega) (by omega))]
  simp only [if_true, bne_self_eq_false]
  refine Ev.step (fun k => by rw [laws_FnMedians.j3]) ?_
  simp only [if_neg Bool.false_ne_true]
  by_cases hz : (SphereR q d0 d1 d2 r).2 = 0
  ·obtain ⟨z1, z2, z3, z4, z5⟩ := sphere_law hz
   simp only [if_pos hz]
   rw [bnd implCountOfSphere_ev]
   simp only [if_pos z3, z4, bne_self_eq_false]
   refine Ev.step (fun k => by rw [laws_FnMedians.j4]) ?_
   simp only [if_neg Bool.false_ne_true]
   exact med_l0 z1 z2 hj6 (SphereR q d0 d1 d2 r).1 [] (by rw [List.nil_append]; exact hlen) z5
  ·simp only [if_neg hz]
   exact hj6

end Go.Proofs.Ytpmepopagapeiaa.Pure

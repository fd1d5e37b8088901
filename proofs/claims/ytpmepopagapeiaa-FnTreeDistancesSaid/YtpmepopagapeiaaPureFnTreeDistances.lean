/- Distances are symmetric and as long as the geodesics, joins hold both balls, what contains is the join, and all of them are the reference's: for every draw. No condition. -/
import Derived.Test.YtpmepopagapeiaaPFnTreeDistancesx14
import Derived.Test.YtpmepopagapeiaaMathFnTreeDistances
namespace Go.Proofs.Ytpmepopagapeiaa.Pure
open Go.RowKit Go.Proofs.Ytpmepopagapeiaa.PFnTreeDistances Go.Proofs.YtpmepopagapeiaaW.PrintWords Go.Proofs.YtpmepopagapeiaaW.PrintLast Go.Proofs.YtpmepopagapeiaaW.PrintMore Go.Proofs.Ytpmepopagapeiaa.Math
set_option linter.unusedVariables false
set_option linter.unusedSimpArgs false
theorem isPrime_eq (p : Int) : impl_isPrime.f p = some (decide (IsP p)) := by
 unfold impl_isPrime.f IsP
 by_cases h2 : p = 2
 ·subst h2; rfl
 by_cases h3 : p = 3
 ·subst h3; rfl
 by_cases h5 : p = 5
 ·subst h5; rfl
 by_cases h7 : p = 7
 ·subst h7; rfl
 simp [h2, h3, h5, h7]
theorem l01Prime_eq (p : Int) : spec_l01Prime.f p = some (decide (IsP p)) := by
 unfold spec_l01Prime.f IsP
 by_cases h2 : p = 2
 ·subst h2; rfl
 by_cases h3 : p = 3
 ·subst h3; rfl
 by_cases h5 : p = 5
 ·subst h5; rfl
 by_cases h7 : p = 7
 ·subst h7; rfl
 simp [h2, h3, h5, h7]
theorem l01In_eq (n a b : Int) : spec_l01In.f n a b = some (decide (a ≤ n ∧ n ≤ b)) := by
 unfold spec_l01In.f
 by_cases h : n ≥ a
 ·rw [if_pos h]; simp [h]
 ·rw [if_neg h]; simp; omega
theorem isLevel_eq (n : Int) : impl_isLevel.f n = some (decide (-6 ≤ n ∧ n ≤ 6)) := by
 unfold impl_isLevel.f
 by_cases h : n ≥ (-6)
 ·rw [if_pos h]; simp [h]
 ·rw [if_neg h]; simp; omega
theorem power_l {p : Int} (h : IsP p) (n : Nat) (hn : p ^ n ≤ 9223372036854775807) (hn' : n ≤ 1000) : ∀ d i, i + d = n → Ev (fun k => impl_power.l0 k p (p ^ i) n i) (p ^ n) := by
 intro d
 induction d with
 | zero =>
  intro i hi
  obtain rfl : i = n := by omega
  refine Ev.step (fun k => by rw [impl_power.l0]) ?_
  simp only [if_neg (Int.lt_irrefl _)]
  exact Ev.now _
 | succ d ih =>
  intro i hi
  refine Ev.step (fun k => by rw [impl_power.l0]) ?_
  have h1 : (i : Int) < n := by omega
  have h2 := pow_pos' h (i + 1)
  have h3 := pow_mono h (m := i + 1) (n := n) (by omega)
  have e1 : wrap64 (p ^ i * p) = p ^ (i + 1) := by rw [← show p ^ (i + 1) = p ^ i * p from Int.pow_succ p i]; exact wrap_id (by omega) (by omega)
  have e2 : wrap64 ((i : Int) + 1) = ((i + 1 : Nat) : Int) := by rw [wrap_id (by omega) (by omega)]; omega
  simp only [if_pos h1, e1, e2]
  exact ih (i + 1) (by omega)
theorem power_big {p : Int} (h : IsP p) {n : Nat} (hn : p ^ n ≤ 9223372036854775807) (hn' : n ≤ 1000) : Ev (fun k => impl_power.f k p n) (p ^ n) := by
 unfold impl_power.f
 have := power_l h n hn hn' n 0 (by omega)
 rw [Int.pow_zero] at this
 exact this
theorem power_ev {p : Int} (h : IsP p) {n : Int} (hn : n ≤ 22) : Ev (fun k => impl_power.f k p n) (p ^ n.toNat) := by
 by_cases h0 : 0 ≤ n
 ·have := power_big h (n := n.toNat) (by have := pow_le_22 h (n := n.toNat) (by omega); omega) (by omega)
  rw [Int.toNat_of_nonneg h0] at this
  exact this
 ·unfold impl_power.f
  refine Ev.step (fun k => by rw [impl_power.l0]) ?_
  have e : n.toNat = 0 := by omega
  simp only [if_neg (show ¬ (0 : Int) < n by omega), e, Int.pow_zero]
  exact Ev.now _
theorem l01Power_l {p : Int} (h : IsP p) : ∀ (d : Nat) (i : Nat), p ^ (i + d) ≤ 9223372036854775807 → i + d ≤ 1000 → Ev (fun k => spec_l01Power.l0 k p d (p ^ i)) (p ^ (i + d)) := by
 intro d
 induction d with
 | zero =>
  intro i _ _
  refine Ev.step (fun k => by rw [spec_l01Power.l0]) ?_
  simp only [if_neg (show ¬ ((0 : Nat) : Int) > 0 by omega)]
  exact Ev.now _
 | succ d ih =>
  intro i hi hi'
  refine Ev.step (fun k => by rw [spec_l01Power.l0]) ?_
  have h2 := pow_pos' h (i + 1)
  have h3 := pow_mono h (m := i + 1) (n := i + (d + 1)) (by omega)
  have e1 : wrap64 (p ^ i * p) = p ^ (i + 1) := by rw [← show p ^ (i + 1) = p ^ i * p from Int.pow_succ p i]; exact wrap_id (by omega) (by omega)
  have e2 : wrap64 (((d + 1 : Nat) : Int) - 1) = (d : Int) := by rw [wrap_id (by omega) (by omega)]; omega
  simp only [if_pos (show ((d + 1 : Nat) : Int) > 0 by omega), e1, e2]
  have e3 : i + (d + 1) = i + 1 + d := by omega
  rw [e3] at hi ⊢
  exact ih (i + 1) hi (by omega)
theorem l01Power_big {p : Int} (h : IsP p) {n : Nat} (hn : p ^ n ≤ 9223372036854775807) (hn' : n ≤ 1000) : Ev (fun k => spec_l01Power.f k p n) (p ^ n) := by
 unfold spec_l01Power.f
 have := l01Power_l h n 0 (by rw [Nat.zero_add]; exact hn) (by omega)
 rw [Int.pow_zero, Nat.zero_add] at this
 exact this
theorem l01Power_ev {p : Int} (h : IsP p) {n : Int} (hn : n ≤ 22) : Ev (fun k => spec_l01Power.f k p n) (p ^ n.toNat) := by
 by_cases h0 : 0 ≤ n
 ·have := l01Power_big h (n := n.toNat) (by have := pow_le_22 h (n := n.toNat) (by omega); omega) (by omega)
  rw [Int.toNat_of_nonneg h0] at this
  exact this
 ·unfold spec_l01Power.f
  refine Ev.step (fun k => by rw [spec_l01Power.l0]) ?_
  have e : n.toNat = 0 := by omega
  simp only [if_neg (show ¬ n > 0 by omega), e, Int.pow_zero]
  exact Ev.now _
theorem l01Power_any {p x : Int} (h : IsP p) (hx : x ≠ 0) (h0 : -9223372036854775807 ≤ x) (h1 : x ≤ 9223372036854775807) : Ev (fun k => spec_l01Power.f k p (vl p x)) (p ^ vl p x) :=
 l01Power_big h (by have := pow_vl_le h hx; omega) (by have := vl_le_62 h hx h0 h1; omega)
theorem valuation_l {p : Int} (h : IsP p) : ∀ (v : Nat) (u : Int) (n : Int), ¬ p ∣ u → -9223372036854775807 ≤ p ^ v * u → p ^ v * u ≤ 9223372036854775807 → 0 ≤ n → n + v ≤ 1000 → Ev (fun k => impl_valuation.l0 k p (p ^ v * u) n) (n + v) := by
 intro v
 induction v with
 | zero =>
  intro u n hu h0 h1 hn hv
  refine Ev.step (fun k => by rw [impl_valuation.l0]) ?_
  have hne : ¬ Int.tmod (p ^ 0 * u) p = 0 := fun e => by
   rw [tmod_zero_iff, Int.pow_zero, Int.one_mul] at e; exact hu e
  simp only [if_neg h.ne, if_neg hne]
  exact ev_some (by simp)
 | succ v ih =>
  intro u n hu h0 h1 hn hv
  refine Ev.step (fun k => by rw [impl_valuation.l0]) ?_
  have e0 : p ^ (v + 1) * u = p * (p ^ v * u) := by rw [Int.pow_succ, Int.mul_comm (p ^ v) p, Int.mul_assoc]
  have hd : Int.tmod (p ^ (v + 1) * u) p = 0 := by rw [tmod_zero_iff, e0]; exact Int.dvd_mul_right _ _
  have e1 : Int.tdiv (p ^ (v + 1) * u) p = p ^ v * u := by rw [e0]; exact tdiv_mul_left h.ne
  have hb := tdiv_bounds (n := p ^ (v + 1) * u) (m := p)
  rw [e1] at hb
  have e2 : wrap64 (p ^ v * u) = p ^ v * u := wrap_id (by omega) (by omega)
  have e3 : wrap64 (n + 1) = n + 1 := wrap_id (by omega) (by omega)
  simp only [if_neg h.ne, if_pos hd, e1, e2, e3]
  exact ev_eq (ih u (n + 1) hu (by omega) (by omega) (by omega) (by omega)) (by omega)
theorem valuation_ev {p : Int} (h : IsP p) {x : Int} (hx : x ≠ 0) (h0 : -9223372036854775807 ≤ x) (h1 : x ≤ 9223372036854775807) : Ev (fun k => impl_valuation.f k p x) (vl p x) := by
 unfold impl_valuation.f
 simp only [if_neg hx]
 obtain ⟨u, hu, hnd, _⟩ := vl_split h x hx
 have hv := vl_le_62 h hx h0 h1
 have := valuation_l h (vl p x) u 0 hnd (by omega) (by omega) (by omega) (by omega)
 rw [← hu, Int.zero_add] at this
 exact this
theorem valuation_zero (k : Nat) (p : Int) : impl_valuation.f k p 0 = some 1000 := by unfold impl_valuation.f; rw [if_pos rfl]
theorem valuation_zero_ev (p : Int) : Ev (fun k => impl_valuation.f k p 0) 1000 := ⟨0, fun k _ => valuation_zero k p⟩
def vx (p x : Int) : Int := if x = 0 then 1000 else vl p x
theorem valuation_any {p : Int} (h : IsP p) {x : Int} (h0 : -9223372036854775807 ≤ x) (h1 : x ≤ 9223372036854775807) : Ev (fun k => impl_valuation.f k p x) (vx p x) := by
 unfold vx
 by_cases hx : x = 0
 ·subst hx; rw [if_pos rfl]; exact valuation_zero_ev p
 ·rw [if_neg hx]; exact valuation_ev h hx h0 h1
theorem l01Val_l {p : Int} (h : IsP p) : ∀ (v : Nat) (u : Int) (n : Int), ¬ p ∣ u → -9223372036854775807 ≤ p ^ v * u → p ^ v * u ≤ 9223372036854775807 → 0 ≤ n → n + v ≤ 1000 → Ev (fun k => spec_l01Val.l0 k p (p ^ v * u) n) (n + v) := by
 intro v
 induction v with
 | zero =>
  intro u n hu h0 h1 hn hv
  refine Ev.step (fun k => by rw [spec_l01Val.l0]) ?_
  have hne : ¬ Int.tmod (p ^ 0 * u) p = 0 := fun e => by
   rw [tmod_zero_iff, Int.pow_zero, Int.one_mul] at e; exact hu e
  simp only [if_neg h.ne, if_neg hne]
  exact ev_some (by simp)
 | succ v ih =>
  intro u n hu h0 h1 hn hv
  refine Ev.step (fun k => by rw [spec_l01Val.l0]) ?_
  have e0 : p ^ (v + 1) * u = p * (p ^ v * u) := by rw [Int.pow_succ, Int.mul_comm (p ^ v) p, Int.mul_assoc]
  have hd : Int.tmod (p ^ (v + 1) * u) p = 0 := by rw [tmod_zero_iff, e0]; exact Int.dvd_mul_right _ _
  have e1 : Int.tdiv (p ^ (v + 1) * u) p = p ^ v * u := by rw [e0]; exact tdiv_mul_left h.ne
  have hb := tdiv_bounds (n := p ^ (v + 1) * u) (m := p)
  rw [e1] at hb
  have e2 : wrap64 (p ^ v * u) = p ^ v * u := wrap_id (by omega) (by omega)
  have e3 : wrap64 (n + 1) = n + 1 := wrap_id (by omega) (by omega)
  simp only [if_neg h.ne, if_pos hd, e1, e2, e3]
  exact ev_eq (ih u (n + 1) hu (by omega) (by omega) (by omega) (by omega)) (by omega)
theorem l01Val_ev {p : Int} (h : IsP p) {x : Int} (hx : x ≠ 0) (h0 : -9223372036854775807 ≤ x) (h1 : x ≤ 9223372036854775807) : Ev (fun k => spec_l01Val.f k p x) (vl p x) := by
 unfold spec_l01Val.f
 obtain ⟨u, hu, hnd, _⟩ := vl_split h x hx
 have hv := vl_le_62 h hx h0 h1
 have := l01Val_l h (vl p x) u 0 hnd (by omega) (by omega) (by omega) (by omega)
 rw [← hu, Int.zero_add] at this
 exact this
theorem mod_ev {n m : Int} (hm : 0 < m) (hm' : m ≤ 4611686018427387904) : impl_mod.f n m = some (n % m) := by
 unfold impl_mod.f
 have hb := mod_between (n := n) hm
 rw [if_neg (show ¬ m = 0 by omega), wrap_id (by omega) (by omega), mod_eq hm]
theorem IsBall_ev {p l t d : Int} (hl : -9223372036854775808 ≤ l ∧ l ≤ 9223372036854775807) (hd : -9223372036854775808 ≤ d ∧ d ≤ 9223372036854775807) :
  Ev (fun k => impl_IsBall.f k p l t d) (decide (IsP p ∧ Bal p l t d)) := by
 unfold impl_IsBall.f
 simp only [isPrime_eq, isLevel_eq, Option.bind_some]
 have bad : ∀ {c : Prop} [Decidable c], ¬ c → Ev (fun k => impl_IsBall.j0 k p true l t d) (decide c) := by
  intro c _ hc
  refine Ev.step (fun k => by rw [impl_IsBall.j0]) ?_
  simp only [if_true]
  exact ev_some (by simp [hc])
 by_cases hp : IsP p
 ·simp only [hp, decide_true, if_true]
  by_cases h1 : -6 ≤ l ∧ l ≤ 6
  ·simp only [h1, decide_true, if_true, and_self]
   by_cases h2 : d < 0
   ·simp only [if_pos h2]
    exact bad (by unfold Bal; omega)
   ·simp only [if_neg h2]
    by_cases h3 : d > 6
    ·simp only [h3, decide_true]
     exact bad (by unfold Bal; omega)
    ·simp only [h3, decide_false]
     refine Ev.step (fun k => by rw [impl_IsBall.j0]) ?_
     have e : wrap64 (l + d) = l + d := wrap_id (by omega) (by omega)
     simp only [if_neg Bool.false_ne_true, e]
     by_cases h4 : l + d ≤ 0
     ·simp only [if_pos h4]
      by_cases h5 : t = 0
      ·simp only [if_pos h5]
       exact ev_dec (by rw [Bal_low h4]; simp [hp, h5]; omega)
      ·simp only [if_neg h5]
       exact ev_dec (by rw [Bal_low h4]; simp [h5])
     ·simp only [if_neg h4]
      have hpw := pow_pos' hp (l + d).toNat
      by_cases h5 : t ≥ 0
      ·simp only [if_pos h5]
       rw [bnd (power_ev hp (by omega))]
       by_cases h6 : t < p ^ (l + d).toNat
       ·simp only [if_pos h6]
        by_cases h7 : d = 0
        ·simp only [if_pos h7]
         exact ev_dec (by rw [Bal_high h4]; simp [hp, h7] at h6 ⊢; omega)
        ·simp only [if_neg h7, if_neg hp.ne]
         refine ev_dec ?_
         rw [Bal_high h4]
         by_cases h8 : p ∣ t <;> simp [hp, h7, tmod_zero_iff, h8] <;> omega
       ·simp only [if_neg h6]
        exact ev_dec (by rw [Bal_high h4]; simp [hp]; omega)
      ·simp only [if_neg h5]
       exact ev_dec (by rw [Bal_high h4]; simp [hp]; omega)
  ·simp only [h1, decide_false, if_neg Bool.false_ne_true]
   exact bad (by unfold Bal; omega)
 ·simp only [hp, decide_false, if_neg Bool.false_ne_true]
  exact bad (by simp)
theorem l01Is_ev {p l t d : Int} (hl : -9223372036854775808 ≤ l ∧ l ≤ 9223372036854775807) (hd : -9223372036854775808 ≤ d ∧ d ≤ 9223372036854775807) :
  Ev (fun k => spec_l01Is.f k p l t d) (decide (IsP p ∧ Bal p l t d)) := by
 unfold spec_l01Is.f
 simp only [l01Prime_eq, l01In_eq, Option.bind_some]
 have bad : ∀ {c : Prop} [Decidable c], ¬ c → Ev (fun k => spec_l01Is.j0 k p true l t d) (decide c) := by
  intro c _ hc
  refine Ev.step (fun k => by rw [spec_l01Is.j0]) ?_
  simp only [if_true]
  exact ev_some (by simp [hc])
 by_cases hp : IsP p
 ·simp only [hp, decide_true, if_true]
  by_cases h1 : -6 ≤ l ∧ l ≤ 6
  ·simp only [h1, decide_true, if_true, and_self]
   by_cases h2 : 0 ≤ d ∧ d ≤ 6
   ·simp only [h2, decide_true, and_self, Bool.not_true]
    refine Ev.step (fun k => by rw [spec_l01Is.j0]) ?_
    have e : wrap64 (l + d) = l + d := wrap_id (by omega) (by omega)
    simp only [if_neg Bool.false_ne_true, e]
    by_cases h4 : l + d ≤ 0
    ·simp only [if_pos h4]
     by_cases h5 : t = 0
     ·simp only [if_pos h5]
      exact ev_dec (by rw [Bal_low h4]; simp [hp, h5]; omega)
     ·simp only [if_neg h5]
      exact ev_dec (by rw [Bal_low h4]; simp [h5])
    ·simp only [if_neg h4]
     have hpw := pow_pos' hp (l + d).toNat
     have hpw2 := pow_le_22 hp (n := (l + d).toNat) (by omega)
     rw [bnd (l01Power_ev hp (by omega))]
     have e2 : wrap64 (p ^ (l + d).toNat - 1) = p ^ (l + d).toNat - 1 := wrap_id (by omega) (by omega)
     simp only [l01In_eq, Option.bind_some, e2]
     by_cases h6 : 0 ≤ t ∧ t ≤ p ^ (l + d).toNat - 1
     ·simp only [h6, decide_true, if_true, and_self]
      by_cases h7 : d = 0
      ·simp only [if_pos h7]
       exact ev_dec (by rw [Bal_high h4]; simp [hp, h7] at h6 ⊢; omega)
      ·simp only [if_neg h7, if_neg hp.ne]
       refine ev_dec ?_
       rw [Bal_high h4]
       by_cases h8 : p ∣ t <;> simp [hp, h7, tmod_zero_iff, h8] <;> omega
     ·simp only [h6, decide_false, if_neg Bool.false_ne_true]
      exact ev_dec (by rw [Bal_high h4]; simp [hp]; omega)
   ·simp only [h2, decide_false, Bool.not_false]
    exact bad (by unfold Bal; omega)
  ·simp only [h1, decide_false, if_neg Bool.false_ne_true]
   exact bad (by unfold Bal; omega)
 ·simp only [hp, decide_false, if_neg Bool.false_ne_true]
  exact bad (by simp)
def BallOk (p : Int) (b : S27) : Prop := Bal p b.f0 b.f1 b.f2
instance (p : Int) (b : S27) : Decidable (BallOk p b) := by unfold BallOk; infer_instance
def BallWf (b : S27) : Prop := (-9223372036854775808 ≤ b.f0 ∧ b.f0 ≤ 9223372036854775807) ∧ (-9223372036854775808 ≤ b.f2 ∧ b.f2 ≤ 9223372036854775807)
theorem rd_ball_at (pre : List S27) (b : S27) (ys : List S27) : rd_T27 (pre ++ b :: ys) (pre.length : Int) = b := by
 unfold rd_T27
 simp [List.getD_eq_getElem?_getD]
theorem l01Code_l {p : Int} (hp : IsP p) : ∀ (ys pre : List S27), (pre ++ ys).length ≤ 1000 → (∀ b ∈ ys, BallWf b) → Ev (fun k => spec_l01Code.l0 k p (pre ++ ys) pre.length) (if ∀ b ∈ ys, BallOk p b then 0 else 1) := by
 intro ys
 induction ys with
 | nil =>
  intro pre _ _
  refine Ev.step (fun k => by rw [spec_l01Code.l0]) ?_
  simp only [List.append_nil, if_neg (Int.lt_irrefl _)]
  exact ev_some (by simp)
 | cons b ys ih =>
  intro pre hl hw
  refine Ev.step (fun k => by rw [spec_l01Code.l0]) ?_
  have hl' : (pre ++ b :: ys).length = pre.length + (ys.length + 1) := by simp
  have h1 : (pre.length : Int) < ((pre ++ b :: ys).length : Int) := by omega
  simp only [if_pos h1, if_pos (show (0 : Int) ≤ (pre.length : Int) by omega), rd_ball_at]
  have hb := hw b (by simp)
  rw [bnd (l01Is_ev hb.1 hb.2)]
  by_cases hB : Bal p b.f0 b.f1 b.f2
  ·simp only [hp, hB, and_self, decide_true, if_true]
   have e : wrap64 ((pre.length : Int) + 1) = ((pre ++ [b]).length : Int) := by rw [wrap_id (by omega) (by omega)]; simp
   have := ih (pre ++ [b]) (by simpa using hl) (fun c hc => hw c (by simp [hc]))
   rw [e]
   simp only [List.append_assoc, List.singleton_append] at this
   refine ev_eq this ?_
   have : (∀ c ∈ b :: ys, BallOk p c) ↔ (∀ c ∈ ys, BallOk p c) := by simp [BallOk, hB]
   simp only [this]
  ·simp only [hp, hB, and_false, decide_false, if_neg Bool.false_ne_true]
   refine ev_some ?_
   rw [if_neg]
   intro hall
   exact hB (hall b (by simp))
theorem l01Code_ev {p : Int} {ys : List S27} (hl : ys.length ≤ 1000) (hw : ∀ b ∈ ys, BallWf b) : Ev (fun k => spec_l01Code.f k p ys) (if IsP p ∧ ∀ b ∈ ys, BallOk p b then 0 else 1) := by
 unfold spec_l01Code.f
 simp only [l01Prime_eq, Option.bind_some]
 by_cases hp : IsP p
 ·simp only [hp, decide_true, if_true, true_and]
  exact l01Code_l hp ys [] (by simpa using hl) hw
 ·simp only [hp, decide_false, if_neg Bool.false_ne_true, false_and, if_false]
  exact Ev.now _
theorem l01Code2 {p l t d l' t' d' : Int} (hl : -9223372036854775808 ≤ l ∧ l ≤ 9223372036854775807) (hd : -9223372036854775808 ≤ d ∧ d ≤ 9223372036854775807)
  (hl' : -9223372036854775808 ≤ l' ∧ l' ≤ 9223372036854775807) (hd' : -9223372036854775808 ≤ d' ∧ d' ≤ 9223372036854775807) :
  Ev (fun k => spec_l01Code.f k p [⟨l, t, d⟩, ⟨l', t', d'⟩]) (if IsP p ∧ Bal p l t d ∧ Bal p l' t' d' then 0 else 1) := by
 refine ev_eq (l01Code_ev (by simp) (by intro b hb; simp at hb; rcases hb with rfl | rfl; exact ⟨hl, hd⟩; exact ⟨hl', hd'⟩)) ?_
 simp [BallOk]
theorem areBalls_l {p : Int} (hp : IsP p) : ∀ (ys pre : List S27), (pre ++ ys).length ≤ 1000 → (∀ b ∈ ys, BallWf b) → Ev (fun k => impl_areBalls.l0 k p (pre ++ ys) ((pre ++ ys).length : Int) pre.length) (decide (∀ b ∈ ys, BallOk p b)) := by
 intro ys
 induction ys with
 | nil =>
  intro pre _ _
  refine Ev.step (fun k => by rw [impl_areBalls.l0]) ?_
  simp only [List.append_nil, if_neg (Int.lt_irrefl _)]
  simp only [isPrime_eq, Option.bind_some, hp]
  exact ev_some (by simp)
 | cons b ys ih =>
  intro pre hl hw
  refine Ev.step (fun k => by rw [impl_areBalls.l0]) ?_
  have hl' : (pre ++ b :: ys).length = pre.length + (ys.length + 1) := by simp
  have h1 : (pre.length : Int) < ((pre ++ b :: ys).length : Int) := by omega
  simp only [if_pos h1, if_pos (show (0 : Int) ≤ (pre.length : Int) by omega), rd_ball_at]
  have hb := hw b (by simp)
  rw [bnd (IsBall_ev hb.1 hb.2)]
  by_cases hB : Bal p b.f0 b.f1 b.f2
  ·simp only [hp, hB, and_self, decide_true, if_true]
   have e : wrap64 ((pre.length : Int) + 1) = ((pre ++ [b]).length : Int) := by rw [wrap_id (by omega) (by omega)]; simp
   have := ih (pre ++ [b]) (by simpa using hl) (fun c hc => hw c (by simp [hc]))
   rw [e]
   simp only [List.append_assoc, List.singleton_append] at this
   refine ev_eq this ?_
   have : (∀ c ∈ b :: ys, BallOk p c) ↔ (∀ c ∈ ys, BallOk p c) := by simp [BallOk, hB]
   simp only [this]
  ·simp only [hp, hB, and_false, decide_false, if_neg Bool.false_ne_true]
   refine ev_some ?_
   symm
   rw [decide_eq_false_iff_not]
   intro hall
   exact hB (hall b (by simp))
theorem areBalls_no {p : Int} (hp : ¬ IsP p) : ∀ (ys : List S27), ys.length ≤ 1000 → (∀ b ∈ ys, BallWf b) → Ev (fun k => impl_areBalls.f k p ys) false := by
 intro ys hl hw
 unfold impl_areBalls.f
 refine Ev.step (fun k => by rw [impl_areBalls.l0]) ?_
 cases ys with
 | nil =>
  simp only [List.length_nil, if_neg (show ¬ (0 : Int) < ((0 : Nat) : Int) by omega)]
  simp only [isPrime_eq, Option.bind_some, hp]
  exact ev_some (by simp)
 | cons b ys =>
  have h1 : (0 : Int) < ((b :: ys).length : Int) := by rw [List.length_cons]; omega
  have h2 := rd_ball_at [] b ys
  simp only [List.nil_append, List.length_nil] at h2
  simp only [if_pos h1, if_pos (Int.le_refl 0)]
  have hb := hw b (by simp)
  have h3 : rd_T27 (b :: ys) 0 = b := h2
  rw [h3, bnd (IsBall_ev hb.1 hb.2)]
  simp only [hp, false_and, decide_false, if_neg Bool.false_ne_true]
  exact Ev.now _
theorem areBalls_ev {p : Int} {ys : List S27} (hl : ys.length ≤ 1000) (hw : ∀ b ∈ ys, BallWf b) : Ev (fun k => impl_areBalls.f k p ys) (decide (IsP p ∧ ∀ b ∈ ys, BallOk p b)) := by
 by_cases hp : IsP p
 ·unfold impl_areBalls.f
  refine ev_eq (areBalls_l hp ys [] (by simpa using hl) hw) (by simp [hp])
 ·refine ev_eq (areBalls_no hp ys hl hw) (by simp [hp])
theorem areBalls2 {p l t d l' t' d' : Int} (hl : -9223372036854775808 ≤ l ∧ l ≤ 9223372036854775807) (hd : -9223372036854775808 ≤ d ∧ d ≤ 9223372036854775807)
  (hl' : -9223372036854775808 ≤ l' ∧ l' ≤ 9223372036854775807) (hd' : -9223372036854775808 ≤ d' ∧ d' ≤ 9223372036854775807) :
  Ev (fun k => impl_areBalls.f k p [⟨l, t, d⟩, ⟨l', t', d'⟩]) (decide (IsP p ∧ Bal p l t d ∧ Bal p l' t' d')) := by
 refine ev_eq (areBalls_ev (by simp) (by intro b hb; simp at hb; rcases hb with rfl | rfl; exact ⟨hl, hd⟩; exact ⟨hl', hd'⟩)) ?_
 simp [BallOk]
theorem l01MulMod_eq {a b m : Int} (h0 : 0 < m) (h1 : m ≤ 100000000000) : spec_l01MulMod.f a b m = some (a * b % m) := by
 unfold spec_l01MulMod.f
 have ha := mod_between (n := a) h0
 have hb := mod_between (n := b) h0
 have ea : wrap64 (Int.tmod a m + m) = Int.tmod a m + m := wrap_id (by omega) (by omega)
 have eb : wrap64 (Int.tmod b m + m) = Int.tmod b m + m := wrap_id (by omega) (by omega)
 have a0 := Int.emod_nonneg a (Int.ne_of_gt h0)
 have a1 := Int.emod_lt_of_pos a h0
 have b0 := Int.emod_nonneg b (Int.ne_of_gt h0)
 have b1 := Int.emod_lt_of_pos b h0
 rw [if_neg (Int.ne_of_gt h0)]
 simp only [ea, eb, mod_eq h0]
 rw [Int.tmod_eq_emod_of_nonneg b0, Int.tdiv_eq_ediv_of_nonneg b0]
 have hq0 : 0 ≤ b % m / 1000000 := by omega
 have hq1 : b % m / 1000000 ≤ 100000 := by omega
 have hr0 : 0 ≤ b % m % 1000000 := by omega
 have hr1 : b % m % 1000000 ≤ 1000000 := by omega
 have eq : wrap64 (b % m / 1000000) = b % m / 1000000 := wrap_id (by omega) (by omega)
 rw [eq]
 have p1 : 0 ≤ a % m * (b % m / 1000000) := Int.mul_nonneg a0 hq0
 have p2 : a % m * (b % m / 1000000) ≤ 100000000000 * 100000 := Int.mul_le_mul (by omega) hq1 hq0 (by omega)
 have p3 : 0 ≤ a % m * (b % m % 1000000) := Int.mul_nonneg a0 hr0
 have p4 : a % m * (b % m % 1000000) ≤ 100000000000 * 1000000 := Int.mul_le_mul (by omega) hr1 hr0 (by omega)
 rw [wrap_id (x := a % m * (b % m / 1000000)) (by omega) (by omega), wrap_id (x := a % m * (b % m % 1000000)) (by omega) (by omega)]
 rw [Int.tmod_eq_emod_of_nonneg p1, Int.tmod_eq_emod_of_nonneg p3]
 have c0 := Int.emod_nonneg (a % m * (b % m / 1000000)) (Int.ne_of_gt h0)
 have c1 := Int.emod_lt_of_pos (a % m * (b % m / 1000000)) h0
 have d0 := Int.emod_nonneg (a % m * (b % m % 1000000)) (Int.ne_of_gt h0)
 have d1 := Int.emod_lt_of_pos (a % m * (b % m % 1000000)) h0
 rw [wrap_id (x := a % m * (b % m / 1000000) % m * 1000000) (by omega) (by omega)]
 have e0 : 0 ≤ a % m * (b % m / 1000000) % m * 1000000 := by omega
 rw [Int.tmod_eq_emod_of_nonneg e0]
 have f0 := Int.emod_nonneg (a % m * (b % m / 1000000) % m * 1000000) (Int.ne_of_gt h0)
 have f1 := Int.emod_lt_of_pos (a % m * (b % m / 1000000) % m * 1000000) h0
 rw [wrap_id (by omega) (by omega), Int.tmod_eq_emod_of_nonneg (by omega), mulmod_eq]
theorem l01InvMod_l {n m : Int} (hm : 0 < m) (hm' : m ≤ 1000000000000) : ∀ (k : Nat) (a b : Nat) (x y : Int), b ≤ k → Euc n m a b x y → (a : Int) ≤ 1000000000000 → (b : Int) ≤ 1000000000000 →
  ∃ r, Ev (fun k => spec_l01InvMod.l0 k m a b x y) r ∧ 0 ≤ r ∧ r < m ∧ m ∣ r * n - 1 := by
 intro k
 induction k with
 | zero =>
  intro a b x y hb he ha1 hb1
  obtain rfl : b = 0 := by omega
  have hl := he.last
  have hbd := he.bounds
  refine ⟨x % m, ?_, Int.emod_nonneg _ (Int.ne_of_gt hm), Int.emod_lt_of_pos _ hm, ?_⟩
  ·refine Ev.step (fun k => by rw [spec_l01InvMod.l0]) ?_
   have hx := mod_between (n := x) hm
   rw [wrap_id (x := Int.tmod x m + m) (by omega) (by omega), mod_eq hm]
   simp only [Int.natCast_zero, if_true, if_neg (Int.ne_of_gt hm)]
   exact Ev.now _
  ·have h1 := dvd_emod_sub x m
   have h2 : x % m * n - 1 = (x % m - x) * n + (x * n - 1) := by rw [Int.sub_mul]; omega
   rw [h2]
   exact Int.dvd_add (Int.dvd_trans h1 (Int.dvd_mul_right _ _)) hl
 | succ k ih =>
  intro a b x y hb he ha1 hb1
  by_cases hz : b = 0
  ·exact ih a b x y (by omega) he ha1 hb1
  ·have hnx := he.next (by omega)
   obtain ⟨r, hr, h0, h1, h2⟩ := ih b (a % b) y (x - (a / b : Nat) * y) (by have := Nat.mod_lt a (show 0 < b by omega); omega) hnx hb1 (by have := Nat.mod_lt a (show 0 < b by omega); omega)
   refine ⟨r, ?_, h0, h1, h2⟩
   refine Ev.step (fun k => by rw [spec_l01InvMod.l0]) ?_
   suffices hs : wrap64 (Int.tdiv (a : Int) b) = (a / b : Nat) ∧ wrap64 ((a : Int) - wrap64 ((a / b : Nat) * (b : Int))) = (a % b : Nat) ∧ wrap64 (x - wrap64 ((a / b : Nat) * y)) = x - (a / b : Nat) * y by
    simp only [if_neg (show ¬ (b : Int) = 0 by omega), hs.1, hs.2.1, hs.2.2]
    exact hr
   have hbd := he.bounds
   have hbd2 := hnx.bounds
   have hbz : ¬ (b : Int) = 0 := by omega
   have eq : Int.tdiv (a : Int) b = (a / b : Nat) := by rw [Int.tdiv_eq_ediv_of_nonneg (by omega), Int.natCast_ediv]
   have hdm := Nat.div_add_mod a b
   have hle := Nat.div_le_self a b
   have hmod := Nat.mod_le a b
   have hprod : ((a / b : Nat) : Int) * b = a - (a % b : Nat) := by
    have : ((b * (a / b) + a % b : Nat) : Int) = (a : Int) := by rw [hdm]
    rw [Int.natCast_add, Int.natCast_mul, Int.mul_comm (b : Int)] at this
    omega
   rw [eq]
   exact euc_wraps hle hmod hprod (by omega) hm hm' hbd hbd2
theorem l01InvMod_ev {p n : Int} (h : IsP p) {e : Nat} (he : e ≤ 14) (hn : ¬ p ∣ n) :
  ∃ r, Ev (fun k => spec_l01InvMod.f k n (p ^ e)) r ∧ 0 ≤ r ∧ r < p ^ e ∧ p ^ e ∣ r * n - 1 := by
 have h0 := pow_pos' h e
 have h7 := pow_le_seven h (m := e) (n := 14) (by omega)
 have e14 : (7 : Int) ^ 14 = 678223072849 := by decide
 have hb := mod_between (n := n) h0
 have hst := Euc.start (n := n) h0 (coprime_start h hn e)
 have hr0 := Int.emod_nonneg n (Int.ne_of_gt h0)
 have hr1 := Int.emod_lt_of_pos n h0
 obtain ⟨r, hr, a, b, c⟩ := l01InvMod_l h0 (by omega) _ _ _ _ _ (Nat.le_refl _) hst (by omega) (by omega)
 refine ⟨r, ?_, a, b, c⟩
 unfold spec_l01InvMod.f
 simp only [if_neg (Int.ne_of_gt h0)]
 rw [wrap_id (x := Int.tmod n (p ^ e) + p ^ e) (by omega) (by omega), mod_eq h0]
 rw [Int.toNat_of_nonneg hr0, Int.toNat_of_nonneg (by omega)] at hr
 exact hr
theorem l01Of_ev {p num den level x : Int} (h : IsP p) (l0 : -6 ≤ level) (l1 : level ≤ 6) (hden : den ≠ 0)
  (n0 : -4000000000000000000 ≤ num ∧ num ≤ 4000000000000000000) (d0 : -4000000000000000000 ≤ den ∧ den ≤ 4000000000000000000)
  (hx : p ^ ((level + 6).toNat + vl p den) ∣ x * den - num * p ^ 6) (hfit : num = 0 ∨ vl p den ≤ vl p num + 6) :
  Ev (fun k => spec_l01Of.f k p num den level) (level, ofMt p level x, (ofMd p level x : Int), true) := by
 unfold spec_l01Of.f
 simp only [l01In_eq, Option.bind_some, show (-6 ≤ level ∧ level ≤ 6) from ⟨l0, l1⟩, and_self, decide_true, if_true]
 by_cases hz : num = 0
 ·obtain ⟨h1, h2⟩ := of_low h hden hx (.inl hz) l0
  simp only [if_pos hz, h1, h2]
  exact Ev.now _
 ·simp only [if_neg hz]
  have b1 := vl_le_62 h hz (by omega) (by omega)
  have b2 := vl_le_62 h hden (by omega) (by omega)
  rw [bnd (l01Val_ev h hz (by omega) (by omega)), bnd (l01Val_ev h hden (by omega) (by omega))]
  have e1 : wrap64 ((vl p num : Int) - vl p den) = (vl p num : Int) - vl p den := wrap_id (by omega) (by omega)
  have e2 : wrap64 ((vl p den : Int) - vl p num) = (vl p den : Int) - vl p num := wrap_id (by omega) (by omega)
  simp only [e1, e2]
  by_cases hlow : level ≤ (vl p num : Int) - vl p den
  ·obtain ⟨h1, h2⟩ := of_low h hden hx (.inr (by omega)) l0
   simp only [if_pos hlow, h1, h2]
   exact Ev.now _
  ·have hfit' : vl p den ≤ vl p num + 6 := by rcases hfit with h1 | h1; exact absurd h1 hz; exact h1
   have e3 : mx ((vl p den : Int) - vl p num) 0 = ((vl p den - vl p num : Nat) : Int) := by unfold mx; split <;> omega
   have e4 : mx ((vl p num : Int) - vl p den) 0 = ((vl p num - vl p den : Nat) : Int) := by unfold mx; split <;> omega
   have e5 : wrap64 (level + ((vl p den - vl p num : Nat) : Int)) = level + ((vl p den - vl p num : Nat) : Int) := wrap_id (by omega) (by omega)
   simp only [if_neg hlow, e3, e4, e5, if_neg (show ¬ ((vl p den - vl p num : Nat) : Int) > 6 by omega)]
   obtain ⟨un, hun, hund, _⟩ := vl_split h num hz
   obtain ⟨ud, hud, hudd, _⟩ := vl_split h den hden
   rw [bnd (l01Power_ev h (by omega)), bnd (l01Power_any h hz (by omega) (by omega))]
   simp only [if_neg (pow_ne' h _)]
   rw [bnd (l01Power_any h hden (by omega) (by omega))]
   simp only [if_neg (pow_ne' h _)]
   have q1 : Int.tdiv num (p ^ vl p num) = un := by
    conv => lhs; arg 1; rw [hun]
    exact tdiv_mul_left (pow_ne' h _)
   have q2 : Int.tdiv den (p ^ vl p den) = ud := by
    conv => lhs; arg 1; rw [hud]
    exact tdiv_mul_left (pow_ne' h _)
   have c1 := tdiv_bounds (n := num) (m := p ^ vl p num)
   have c2 := tdiv_bounds (n := den) (m := p ^ vl p den)
   rw [q1] at c1
   rw [q2] at c2
   simp only [q1, q2, wrap_id (x := un) (by omega) (by omega), wrap_id (x := ud) (by omega) (by omega)]
   have h12 := pow_le_seven h (m := (level + ((vl p den - vl p num : Nat) : Int)).toNat) (n := 12) (by omega)
   have e12 : (7 : Int) ^ 12 = 13841287201 := by decide
   have hpp := pow_pos' h (level + ((vl p den - vl p num : Nat) : Int)).toNat
   obtain ⟨inv, hinv, _, _, hid⟩ := l01InvMod_ev h (n := ud) (e := (level + ((vl p den - vl p num : Nat) : Int)).toNat) (by omega) hudd
   rw [bnd hinv]
   simp only [l01MulMod_eq hpp (by omega), Option.bind_some]
   rw [bnd (l01Power_ev h (by omega))]
   have hx' : p ^ ((level + 6).toNat + vl p den) ∣ x * (p ^ vl p den * ud) - p ^ vl p num * un * p ^ 6 := by
    rw [← hun, ← hud]; exact hx
   obtain ⟨h1, h2⟩ := of_high h l0 l1 hund hudd hx' (by omega) hfit' hid
   rw [h1, h2]
   simp only [Int.toNat_natCast]
   exact Ev.now _
theorem l01Of_out {p num den level : Int} (hl : ¬ (-6 ≤ level ∧ level ≤ 6)) : Ev (fun k => spec_l01Of.f k p num den level) (0, 0, 0, false) := by
 unfold spec_l01Of.f
 simp only [l01In_eq, Option.bind_some, hl, decide_false, if_neg Bool.false_ne_true]
 exact Ev.now _
theorem l01Of_pow {p t d level : Int} (h : IsP p) (hd : 0 ≤ d ∧ d ≤ 6) (n0 : -4000000000000000000 ≤ t ∧ t ≤ 4000000000000000000) :
  Ev (fun k => spec_l01Of.f k p t (p ^ d.toNat) level) (if -6 ≤ level ∧ level ≤ 6 then (level, ofMt p level (mk p t d), (ofMd p level (mk p t d) : Int), true) else (0, 0, 0, false)) := by
 by_cases hl : -6 ≤ level ∧ level ≤ 6
 ·rw [if_pos hl]
  have h0 := pow_pos' h d.toNat
  have h1 := pow_le_22 h (n := d.toNat) (by omega)
  refine l01Of_ev h hl.1 hl.2 (by omega) n0 (by omega) ?_ (.inr (by rw [vl_pow h]; omega))
  have e : mk p t d * p ^ d.toNat - t * p ^ 6 = 0 := by
   unfold mk
   rw [Int.mul_assoc, ← Int.pow_add]
   have : (6 - d).toNat + d.toNat = 6 := by omega
   rw [this]; omega
  rw [e]; exact Int.dvd_zero _
 ·rw [if_neg hl]
  exact l01Of_out hl
theorem mk_bound {p t d : Int} (h : IsP p) (hd : 0 ≤ d) (ht : -13841287201 ≤ t ∧ t ≤ 13841287201) : -1628413597910449 ≤ mk p t d ∧ mk p t d ≤ 1628413597910449 := by
 unfold mk
 have h0 := pow_pos' h (6 - d).toNat
 have h1 := pow_le_seven h (m := (6 - d).toNat) (n := 6) (by omega)
 have e : (7 : Int) ^ 6 = 117649 := by decide
 rw [e] at h1
 rcases Int.le_total 0 t with h2 | h2
 ·have a := Int.mul_le_mul ht.2 h1 (Int.le_of_lt h0) (by omega)
  have b := Int.mul_nonneg h2 (Int.le_of_lt h0)
  omega
 ·have a := Int.mul_le_mul (show -t ≤ 13841287201 by omega) h1 (Int.le_of_lt h0) (by omega)
  have b := Int.mul_nonneg (show 0 ≤ -t by omega) (Int.le_of_lt h0)
  rw [Int.neg_mul] at a b
  omega
theorem mark_ev {p l t d : Int} (h : IsP p) (hb : Bal p l t d) : Ev (fun k => impl_mark.f k p l t d) (mk p t d) := by
 unfold impl_mark.f
 have hs := hb.small h
 have hd : 0 ≤ d ∧ d ≤ 6 := by unfold Bal at hb; omega
 have hm := mk_bound h hd.1 (t := t) (by omega)
 have e : wrap64 (6 - d) = 6 - d := wrap_id (by omega) (by omega)
 simp only [e]
 rw [bnd (power_ev h (by omega))]
 exact ev_some (wrap_id (x := mk p t d) (by omega) (by omega))
theorem mark_le {p l t d : Int} (h : IsP p) (hb : Bal p l t d) : 0 ≤ mk p t d ∧ mk p t d < 13841287201 := by
 have hm := hb.mark h
 have h1 := pow_le_seven h (m := (l + 6).toNat) (n := 12) (by unfold Bal at hb; omega)
 have e : (7 : Int) ^ 12 = 13841287201 := by decide
 omega
theorem ofMark_ev {p level x : Int} (h : IsP p) (hx : -4000000000000000000 ≤ x ∧ x ≤ 4000000000000000000) :
  Ev (fun k => impl_ofMark.f k p level x) (if -6 ≤ level ∧ level ≤ 6 then (level, ofMt p level x, (ofMd p level x : Int), true) else (0, 0, 0, false)) := by
 unfold impl_ofMark.f
 simp only [isLevel_eq, Option.bind_some]
 by_cases hl : -6 ≤ level ∧ level ≤ 6
 ·have e : wrap64 (level + 6) = level + 6 := wrap_id (by omega) (by omega)
  simp only [hl, and_self, decide_true, if_true, e]
  rw [bnd (power_ev h (by omega))]
  have h0 := pow_pos' h (level + 6).toNat
  have h1 := pow_le_seven h (m := (level + 6).toNat) (n := 12) (by omega)
  have e12 : (7 : Int) ^ 12 = 13841287201 := by decide
  simp only [mod_ev h0 (by omega), Option.bind_some]
  have y0 := Int.emod_nonneg x (Int.ne_of_gt h0)
  have y1 := Int.emod_lt_of_pos x h0
  rw [bnd (valuation_any h (by omega) (by omega))]
  have hvx : vx p (x % p ^ (level + 6).toNat) ≤ 1000 ∧ 0 ≤ vx p (x % p ^ (level + 6).toNat) := by
   unfold vx
   split
   ·omega
   ·rename_i hz
    have := vl_le_62 h hz (by omega) (by omega)
    omega
  have e2 : wrap64 (6 - vx p (x % p ^ (level + 6).toNat)) = 6 - vx p (x % p ^ (level + 6).toNat) := wrap_id (by omega) (by omega)
  have e3 : mx (6 - vx p (x % p ^ (level + 6).toNat)) 0 = (ofMd p level x : Int) := by
   unfold vx ofMd mx
   by_cases hz : x % p ^ (level + 6).toNat = 0
   ·simp only [if_pos hz]; omega
   ·simp only [if_neg hz]; split <;> omega
  have hd6 := ofMd_le p level x
  have e4 : wrap64 (6 - (ofMd p level x : Int)) = 6 - (ofMd p level x : Int) := wrap_id (by omega) (by omega)
  simp only [e2, e3, e4]
  rw [bnd (power_ev h (by omega))]
  have e5 : (6 - (ofMd p level x : Int)).toNat = 6 - ofMd p level x := by omega
  simp only [if_neg (pow_ne' h _), e5]
  have hq := tdiv_bounds (n := x % p ^ (level + 6).toNat) (m := p ^ (6 - ofMd p level x))
  rw [wrap_id (by omega) (by omega)]
  have e6 : Int.tdiv (x % p ^ (level + 6).toNat) (p ^ (6 - ofMd p level x)) = ofMt p level x := by
   unfold ofMt
   exact Int.tdiv_eq_ediv_of_nonneg y0
  rw [e6]
  exact Ev.now _
 ·simp only [hl, decide_false, if_neg Bool.false_ne_true, if_false]
  exact Ev.now _
def ParR (p l t d : Int) : Int × Int × Int × Bool := if -6 ≤ l - 1 ∧ l - 1 ≤ 6 then (l - 1, ofMt p (l - 1) (mk p t d), (ofMd p (l - 1) (mk p t d) : Int), true) else (0, 0, 0, false)
theorem l01Parent_ev {p l t d : Int} (h : IsP p) (hb : Bal p l t d) : Ev (fun k => spec_l01Parent.f k p l t d) (ParR p l t d) := by
 unfold spec_l01Parent.f ParR
 have hs := hb.small h
 have hr : -6 ≤ l ∧ l ≤ 6 ∧ 0 ≤ d ∧ d ≤ 6 := by unfold Bal at hb; omega
 have e : wrap64 (l - 1) = l - 1 := wrap_id (by omega) (by omega)
 simp only [e]
 rw [bnd (l01Power_ev h (by omega)), bnd (l01Of_pow h (by omega) (by omega))]
 exact Ev.now _
theorem over_max {p ta da tb db : Int} (h : IsP p) (ha : 0 ≤ da ∧ da ≤ 6) (hb : 0 ≤ db ∧ db ≤ 6) (ta0 : 0 ≤ ta ∧ ta ≤ 13841287201) (tb0 : 0 ≤ tb ∧ tb ≤ 13841287201) :
  wrap64 (mx da db - da) = mx da db - da ∧ wrap64 (mx da db - db) = mx da db - db ∧ 0 ≤ mx da db ∧ mx da db ≤ 6 ∧ da ≤ mx da db ∧ db ≤ mx da db ∧
  wrap64 (ta * p ^ (mx da db - da).toNat) = ta * p ^ (mx da db - da).toNat ∧ wrap64 (tb * p ^ (mx da db - db).toNat) = tb * p ^ (mx da db - db).toNat ∧
  (0 ≤ ta * p ^ (mx da db - da).toNat ∧ ta * p ^ (mx da db - da).toNat ≤ 1628413597910449) ∧ (0 ≤ tb * p ^ (mx da db - db).toNat ∧ tb * p ^ (mx da db - db).toNat ≤ 1628413597910449) ∧
  mk p (ta * p ^ (mx da db - da).toNat) (mx da db) = mk p ta da ∧ mk p (tb * p ^ (mx da db - db).toNat) (mx da db) = mk p tb db := by
 have hm : 0 ≤ mx da db ∧ mx da db ≤ 6 ∧ da ≤ mx da db ∧ db ≤ mx da db := by unfold mx; split <;> omega
 have key : ∀ {t : Int} {e : Int}, 0 ≤ t ∧ t ≤ 13841287201 → e ≤ 6 → 0 ≤ t * p ^ e.toNat ∧ t * p ^ e.toNat ≤ 1628413597910449 := by
  intro t e ht he
  have h0 := pow_pos' h e.toNat
  have h1 := pow_le_seven h (m := e.toNat) (n := 6) (by omega)
  have e6 : (7 : Int) ^ 6 = 117649 := by decide
  rw [e6] at h1
  have a := Int.mul_le_mul ht.2 h1 (Int.le_of_lt h0) (by omega)
  exact ⟨Int.mul_nonneg ht.1 (Int.le_of_lt h0), by omega⟩
 have ka := key ta0 (e := mx da db - da) (by omega)
 have kb := key tb0 (e := mx da db - db) (by omega)
 have kk : ∀ {t e : Int}, 0 ≤ e → e ≤ mx da db → mk p (t * p ^ (mx da db - e).toNat) (mx da db) = mk p t e := by
  intro t e he0 he
  unfold mk
  rw [Int.mul_assoc, ← Int.pow_add]
  congr 2
  omega
 exact ⟨wrap_id (by omega) (by omega), wrap_id (by omega) (by omega), hm.1, hm.2.1, hm.2.2.1, hm.2.2.2, wrap_id (by omega) (by omega), wrap_id (by omega) (by omega), ka, kb, kk ha.1 hm.2.2.1, kk hb.1 hm.2.2.2⟩
theorem mk_sub (p s t d : Int) : mk p (s - t) d = mk p s d - mk p t d := by unfold mk; rw [Int.sub_mul]
theorem holds_ev {p l t d l' t' d' : Int} (h : IsP p) (hb : Bal p l t d) (hb' : Bal p l' t' d') : Ev (fun k => impl_holds.f k p l t d l' t' d') (decide (HoldsP p l t d l' t' d')) := by
 unfold impl_holds.f HoldsP
 have hm := mark_le h hb
 have hm' := mark_le h hb'
 have hr : -6 ≤ l ∧ l ≤ 6 := by unfold Bal at hb; omega
 by_cases hle : l ≤ l'
 ·simp only [if_pos hle]
  rw [bnd (mark_ev h hb'), bnd (mark_ev h hb), wrap_id (x := l + 6) (by omega) (by omega), bnd (power_ev h (by omega))]
  simp only [if_neg (pow_ne' h _)]
  rw [wrap_id (by omega) (by omega)]
  exact ev_dec (by simp [hle, tmod_zero_iff])
 ·simp only [if_neg hle]
  exact ev_dec (by simp [hle])
def HoldsR (p la ta da lb tb db : Int) : Bool × Int := if IsP p ∧ Bal p la ta da ∧ Bal p lb tb db then (decide (HoldsP p la ta da lb tb db), 0) else (false, 1)
theorem implHoldsBall_ev {p l t d l' t' d' : Int} (hl : -9223372036854775808 ≤ l ∧ l ≤ 9223372036854775807) (hd : -9223372036854775808 ≤ d ∧ d ≤ 9223372036854775807)
  (hl' : -9223372036854775808 ≤ l' ∧ l' ≤ 9223372036854775807) (hd' : -9223372036854775808 ≤ d' ∧ d' ≤ 9223372036854775807) : Ev (fun k => impl_HoldsBall.f k p l t d l' t' d') (HoldsR p l t d l' t' d') := by
 unfold impl_HoldsBall.f HoldsR
 rw [bnd (areBalls2 hl hd hl' hd')]
 by_cases h : IsP p ∧ Bal p l t d ∧ Bal p l' t' d'
 ·simp only [h, and_self, decide_true, if_true]
  rw [bnd (holds_ev h.1 h.2.1 h.2.2)]
  exact Ev.now _
 ·simp only [h, decide_false, if_neg Bool.false_ne_true, if_false]; exact Ev.now _
theorem joinLevel_ev {p l t d l' t' d' : Int} (h : IsP p) (hb : Bal p l t d) (hb' : Bal p l' t' d') : Ev (fun k => impl_joinLevel.f k p l t d l' t' d') (joinL p l t d l' t' d') := by
 unfold impl_joinLevel.f joinL
 have hm := mark_le h hb
 have hm' := mark_le h hb'
 have hr : -6 ≤ l ∧ l ≤ 6 ∧ -6 ≤ l' ∧ l' ≤ 6 := by unfold Bal at hb hb'; omega
 rw [bnd (mark_ev h hb), bnd (mark_ev h hb'), wrap_id (by omega) (by omega), bnd (valuation_any h (by omega) (by omega))]
 unfold vx
 by_cases e : mk p t d = mk p t' d'
 ·rw [if_pos e, if_pos (by omega), wrap_id (by omega) (by omega)]
  refine ev_some ?_
  unfold mn; repeat' split
  all_goals omega
 ·have hz : ¬ mk p t d - mk p t' d' = 0 := by omega
  have := vl_le_62 h hz (by omega) (by omega)
  rw [if_neg e, if_neg hz, wrap_id (by omega) (by omega)]
  exact Ev.now _
theorem l02Valuation_ev {p l t d l' t' d' : Int} (h : IsP p) (hb : Bal p l t d) (hb' : Bal p l' t' d') : Ev (fun k => spec_l02Valuation.f k p l t d l' t' d') (if mk p t d = mk p t' d' then (0, false) else ((vl p (mk p t d - mk p t' d') : Int) - 6, true)) := by
 unfold spec_l02Valuation.f
 have hs := hb.small h
 have hs' := hb'.small h
 have hdd : (0 ≤ d ∧ d ≤ 6) ∧ 0 ≤ d' ∧ d' ≤ 6 := by unfold Bal at hb hb'; omega
 obtain ⟨e1, e2, m0, m1, m2, m3, e3, e4, b1, b2, k1, k2⟩ := over_max h hdd.1 hdd.2 hs hs'
 simp only [e1, e2]
 rw [bnd (l01Power_ev h (by omega)), bnd (l01Power_ev h (by omega)), e3, e4, wrap_id (by omega) (by omega)]
 have hk : (t * p ^ (mx d d' - d).toNat - t' * p ^ (mx d d' - d').toNat) * p ^ (6 - mx d d').toNat = mk p t d - mk p t' d' := by
  rw [← k1, ← k2, ← mk_sub]; rfl
 generalize hw : t * p ^ (mx d d' - d).toNat - t' * p ^ (mx d d' - d').toNat = w at *
 have hp6 := pow_pos' h (6 - mx d d').toNat
 by_cases hz : w = 0
 ·have e : mk p t d = mk p t' d' := by rw [hz, Int.zero_mul] at hk; omega
  rw [if_pos e]
  simp only [if_pos hz]
  exact Ev.now _
 ·have hne := Int.mul_ne_zero hz (Int.ne_of_gt hp6)
  have e : ¬ mk p t d = mk p t' d' := by rw [hk] at hne; omega
  rw [if_neg e, ← hk, Int.mul_comm w, vl_pow_mul h hz]
  have hv := vl_le_62 h hz (by omega) (by omega)
  simp only [if_neg hz]
  rw [bnd (l01Val_ev h hz (by omega) (by omega)), wrap_id (by omega) (by omega)]
  refine ev_some ?_
  have : ((vl p w : Int) - mx d d') = ((((6 - mx d d').toNat + vl p w : Nat) : Int) - 6) := by omega
  rw [this]
theorem l02Join_ev {p l t d l' t' d' : Int} (h : IsP p) (hb : Bal p l t d) (hb' : Bal p l' t' d') : Ev (fun k => spec_l02Join.f k p l t d l' t' d') (joinL p l t d l' t' d') := by
 unfold spec_l02Join.f joinL
 rw [bnd (l02Valuation_ev h hb hb')]
 by_cases e : mk p t d = mk p t' d'
 ·simp only [if_pos e, if_neg Bool.false_ne_true]; exact Ev.now _
 ·simp only [if_neg e, if_true]; exact Ev.now _
theorem implContains_ev {p l t d l' t' d' : Int} (hl : -9223372036854775808 ≤ l ∧ l ≤ 9223372036854775807) (hd : -9223372036854775808 ≤ d ∧ d ≤ 9223372036854775807)
  (hl' : -9223372036854775808 ≤ l' ∧ l' ≤ 9223372036854775807) (hd' : -9223372036854775808 ≤ d' ∧ d' ≤ 9223372036854775807) : Ev (fun k => impl_Contains.f k p l t d l' t' d') (HoldsR p l t d l' t' d') := by
 unfold impl_Contains.f
 rw [bnd (implHoldsBall_ev hl hd hl' hd')]
 exact Ev.now _
theorem specContains_ev {p l t d l' t' d' : Int} (hl : -9223372036854775808 ≤ l ∧ l ≤ 9223372036854775807) (hd : -9223372036854775808 ≤ d ∧ d ≤ 9223372036854775807)
  (hl' : -9223372036854775808 ≤ l' ∧ l' ≤ 9223372036854775807) (hd' : -9223372036854775808 ≤ d' ∧ d' ≤ 9223372036854775807) : Ev (fun k => spec_Contains.f k p l t d l' t' d') (HoldsR p l t d l' t' d') := by
 unfold spec_Contains.f HoldsR
 rw [bnd (l01Code2 hl hd hl' hd')]
 by_cases h : IsP p ∧ Bal p l t d ∧ Bal p l' t' d'
 ·have hr : -6 ≤ l ∧ l ≤ 6 := by have := h.2.1; unfold Bal at this; omega
  simp only [h, and_self, if_true]
  rw [bnd (l02Join_ev h.1 h.2.1 h.2.2)]
  refine ev_some ?_
  have := contains_iff (p := p) (la := l) (ta := t) (da := d) (lb := l') (tb := t') (db := d') h.1 hr.1 hr.2
  have e : (joinL p l t d l' t' d' == l) = decide (HoldsP p l t d l' t' d') := by
   rw [← decide_eq_decide.2 this]; rfl
  rw [e]
 ·simp only [h, if_false, if_neg (show ¬ (1 : Int) = 0 by omega)]; exact Ev.now _
def distL (p la ta da lb tb db : Int) : Int := la + lb - 2 * joinL p la ta da lb tb db
theorem dist_wrap {p l t d l' t' d' : Int} (hb : Bal p l t d) (hb' : Bal p l' t' d') : wrap64 (wrap64 (l + l') - wrap64 (2 * joinL p l t d l' t' d')) = distL p l t d l' t' d' := by
 have hr : -6 ≤ l ∧ l ≤ 6 ∧ -6 ≤ l' ∧ l' ≤ 6 := by unfold Bal at hb hb'; omega
 have h1 := joinL_le (p := p) (la := l) (ta := t) (da := d) (lb := l') (tb := t') (db := d')
 have h2 := joinL_ge (p := p) (ta := t) (da := d) (tb := t') (db := d') hr.1 hr.2.2.1
 unfold distL
 rw [wrap_id (x := l + l') (by omega) (by omega), wrap_id (x := 2 * _) (by omega) (by omega), wrap_id (by omega) (by omega)]
theorem distance_ev {p l t d l' t' d' : Int} (h : IsP p) (hb : Bal p l t d) (hb' : Bal p l' t' d') : Ev (fun k => impl_distance.f k p l t d l' t' d') (distL p l t d l' t' d') := by
 unfold impl_distance.f
 rw [bnd (joinLevel_ev h hb hb'), dist_wrap hb hb']
 exact Ev.now _
theorem l02Distance_ev {p l t d l' t' d' : Int} (h : IsP p) (hb : Bal p l t d) (hb' : Bal p l' t' d') : Ev (fun k => spec_l02Distance.f k p l t d l' t' d') (distL p l t d l' t' d') := by
 unfold spec_l02Distance.f
 rw [bnd (l02Join_ev h hb hb'), dist_wrap hb hb']
 exact Ev.now _
def DistR (p la ta da lb tb db : Int) : Int × Int := if IsP p ∧ Bal p la ta da ∧ Bal p lb tb db then (distL p la ta da lb tb db, 0) else (0, 1)
theorem implTreeDistance_ev {p l t d l' t' d' : Int} (hl : -9223372036854775808 ≤ l ∧ l ≤ 9223372036854775807) (hd : -9223372036854775808 ≤ d ∧ d ≤ 9223372036854775807)
  (hl' : -9223372036854775808 ≤ l' ∧ l' ≤ 9223372036854775807) (hd' : -9223372036854775808 ≤ d' ∧ d' ≤ 9223372036854775807) : Ev (fun k => impl_TreeDistance.f k p l t d l' t' d') (DistR p l t d l' t' d') := by
 unfold impl_TreeDistance.f DistR
 rw [bnd (areBalls2 hl hd hl' hd')]
 by_cases h : IsP p ∧ Bal p l t d ∧ Bal p l' t' d'
 ·simp only [h, and_self, decide_true, if_true]
  rw [bnd (distance_ev h.1 h.2.1 h.2.2)]
  exact Ev.now _
 ·simp only [h, decide_false, if_neg Bool.false_ne_true, if_false]; exact Ev.now _
theorem specTreeDistance_ev {p l t d l' t' d' : Int} (hl : -9223372036854775808 ≤ l ∧ l ≤ 9223372036854775807) (hd : -9223372036854775808 ≤ d ∧ d ≤ 9223372036854775807)
  (hl' : -9223372036854775808 ≤ l' ∧ l' ≤ 9223372036854775807) (hd' : -9223372036854775808 ≤ d' ∧ d' ≤ 9223372036854775807) : Ev (fun k => spec_TreeDistance.f k p l t d l' t' d') (DistR p l t d l' t' d') := by
 unfold spec_TreeDistance.f DistR
 rw [bnd (l01Code2 hl hd hl' hd')]
 by_cases h : IsP p ∧ Bal p l t d ∧ Bal p l' t' d'
 ·simp only [h, and_self, if_true]
  rw [bnd (l02Distance_ev h.1 h.2.1 h.2.2)]
  exact Ev.now _
 ·simp only [h, if_false, if_neg (show ¬ (1 : Int) = 0 by omega)]; exact Ev.now _
theorem above_ev {p l t d n : Int} (h : IsP p) (hb : Bal p l t d) (hn : -6 ≤ n ∧ n ≤ 6) : Ev (fun k => impl_above.f k p l t d n) (n, ofMt p n (mk p t d), (ofMd p n (mk p t d) : Int)) := by
 unfold impl_above.f
 have hm := mark_le h hb
 rw [bnd (mark_ev h hb), bnd (ofMark_ev h (by omega))]
 simp only [hn, and_self, if_true]
 exact Ev.now _
theorem l02Up_ev {p l t d n : Int} (h : IsP p) (hb : Bal p l t d) (hn : -6 ≤ n ∧ n ≤ 6) : Ev (fun k => spec_l02Up.f k p l t d n) (n, ofMt p n (mk p t d), (ofMd p n (mk p t d) : Int), true) := by
 unfold spec_l02Up.f
 have hs := hb.small h
 have hd : 0 ≤ d ∧ d ≤ 6 := by unfold Bal at hb; omega
 rw [bnd (l01Power_ev h (by omega)), bnd (l01Of_pow h hd (by omega))]
 simp only [hn, and_self, if_true]
 exact Ev.now _
theorem joinL_range {p l t d l' t' d' : Int} (hb : Bal p l t d) (hb' : Bal p l' t' d') : -6 ≤ joinL p l t d l' t' d' ∧ joinL p l t d l' t' d' ≤ 6 := by
 have hr : -6 ≤ l ∧ l ≤ 6 ∧ -6 ≤ l' ∧ l' ≤ 6 := by unfold Bal at hb hb'; omega
 have h1 := joinL_le (p := p) (la := l) (ta := t) (da := d) (lb := l') (tb := t') (db := d')
 have h2 := joinL_ge (p := p) (ta := t) (da := d) (tb := t') (db := d') hr.1 hr.2.2.1
 omega
def JoinR (p la ta da lb tb db : Int) : Int × Int × Int × Int := if IsP p ∧ Bal p la ta da ∧ Bal p lb tb db then (joinL p la ta da lb tb db, ofMt p (joinL p la ta da lb tb db) (mk p ta da), (ofMd p (joinL p la ta da lb tb db) (mk p ta da) : Int), 0) else (0, 0, 0, 1)
theorem join_ev {p l t d l' t' d' : Int} (h : IsP p) (hb : Bal p l t d) (hb' : Bal p l' t' d') : Ev (fun k => impl_join.f k p l t d l' t' d') (joinL p l t d l' t' d', ofMt p (joinL p l t d l' t' d') (mk p t d), (ofMd p (joinL p l t d l' t' d') (mk p t d) : Int)) := by
 unfold impl_join.f
 rw [bnd (joinLevel_ev h hb hb'), bnd (above_ev h hb (joinL_range hb hb'))]
 exact Ev.now _
theorem implJoinOf_ev {p l t d l' t' d' : Int} (hl : -9223372036854775808 ≤ l ∧ l ≤ 9223372036854775807) (hd : -9223372036854775808 ≤ d ∧ d ≤ 9223372036854775807)
  (hl' : -9223372036854775808 ≤ l' ∧ l' ≤ 9223372036854775807) (hd' : -9223372036854775808 ≤ d' ∧ d' ≤ 9223372036854775807) : Ev (fun k => impl_JoinOf.f k p l t d l' t' d') (JoinR p l t d l' t' d') := by
 unfold impl_JoinOf.f JoinR
 rw [bnd (areBalls2 hl hd hl' hd')]
 by_cases h : IsP p ∧ Bal p l t d ∧ Bal p l' t' d'
 ·simp only [h, and_self, decide_true, if_true]
  rw [bnd (join_ev h.1 h.2.1 h.2.2)]
  exact Ev.now _
 ·simp only [h, decide_false, if_neg Bool.false_ne_true, if_false]; exact Ev.now _
theorem specJoinOf_ev {p l t d l' t' d' : Int} (hl : -9223372036854775808 ≤ l ∧ l ≤ 9223372036854775807) (hd : -9223372036854775808 ≤ d ∧ d ≤ 9223372036854775807)
  (hl' : -9223372036854775808 ≤ l' ∧ l' ≤ 9223372036854775807) (hd' : -9223372036854775808 ≤ d' ∧ d' ≤ 9223372036854775807) : Ev (fun k => spec_JoinOf.f k p l t d l' t' d') (JoinR p l t d l' t' d') := by
 unfold spec_JoinOf.f JoinR
 rw [bnd (l01Code2 hl hd hl' hd')]
 by_cases h : IsP p ∧ Bal p l t d ∧ Bal p l' t' d'
 ·simp only [h, and_self, if_true]
  rw [bnd (l02Join_ev h.1 h.2.1 h.2.2), bnd (l02Up_ev h.1 h.2.1 (joinL_range h.2.1 h.2.2))]
  exact Ev.now _
 ·simp only [h, if_false, if_neg (show ¬ (1 : Int) = 0 by omega)]; exact Ev.now _
def ChR (p l t d i : Int) : Int × Int × Int × Bool := if l = 6 then (0, 0, 0, false) else (l + 1, ofMt p (l + 1) (mk p t d + i * p ^ (l + 6).toNat), (ofMd p (l + 1) (mk p t d + i * p ^ (l + 6).toNat) : Int), true)
theorem pow_split {p : Int} {a b c : Nat} (h : a + b = c) : p ^ a * p ^ b = p ^ c := by rw [← Int.pow_add, h]
theorem l01Child_ev {p l t d i : Int} (h : IsP p) (hb : Bal p l t d) (hi : 0 ≤ i ∧ i < p) : Ev (fun k => spec_l01Child.f k p l t d i) (ChR p l t d i) := by
 unfold spec_l01Child.f ChR
 have hr : -6 ≤ l ∧ l ≤ 6 ∧ 0 ≤ d ∧ d ≤ 6 := by unfold Bal at hb; omega
 have ht := hb.small h
 have h7 := h.le_seven
 have e2 : wrap64 (l + 1) = l + 1 := wrap_id (by omega) (by omega)
 have en : wrap64 (-l) = -l := wrap_id (by omega) (by omega)
 have e6 : (7 : Int) ^ 6 = 117649 := by decide
 by_cases hl : l = 6
 ·simp only [if_pos hl]; exact Ev.now _
 simp only [if_neg hl, e2, en]
 have pd0 := pow_pos' h d.toNat
 have pd1 := pow_le_seven h (m := d.toNat) (n := 6) (by omega)
 rw [bnd (l01Power_ev h (by omega))]
 by_cases hn : l ≥ 0
 ·simp only [if_pos hn]
  rw [bnd (l01Power_ev h (by omega))]
  have pl0 := pow_pos' h l.toNat
  have pl1 := pow_le_seven h (m := l.toNat) (n := 6) (by omega)
  have m0 : 0 ≤ i * p ^ d.toNat := Int.mul_nonneg hi.1 (by omega)
  have m1 : i * p ^ d.toNat ≤ 7 * p ^ d.toNat := Int.mul_le_mul_of_nonneg_right (by omega) (by omega)
  have w1 : wrap64 (i * p ^ d.toNat) = i * p ^ d.toNat := wrap_id (by omega) (by omega)
  have m2 : 0 ≤ i * p ^ d.toNat * p ^ l.toNat := Int.mul_nonneg m0 (by omega)
  have m3 : i * p ^ d.toNat * p ^ l.toNat ≤ 823543 * 117649 := Int.mul_le_mul (by omega) (by omega) (by omega) (by omega)
  have w2 : wrap64 (i * p ^ d.toNat * p ^ l.toNat) = i * p ^ d.toNat * p ^ l.toNat := wrap_id (by omega) (by omega)
  have w3 : wrap64 (t + i * p ^ d.toNat * p ^ l.toNat) = t + i * p ^ d.toNat * p ^ l.toNat := wrap_id (by omega) (by omega)
  simp only [w1, w2, w3]
  rw [bnd (l01Of_pow h (by omega) (by omega))]
  have em : mk p (t + i * p ^ d.toNat * p ^ l.toNat) d = mk p t d + i * p ^ (l + 6).toNat := by
   unfold mk
   rw [Int.add_mul, Int.mul_assoc i, Int.mul_assoc i, Int.mul_assoc (p ^ d.toNat), Int.mul_comm (p ^ l.toNat), ← Int.mul_assoc (p ^ d.toNat), pow_split (show d.toNat + (6 - d).toNat = 6 by omega), pow_split (show 6 + l.toNat = (l + 6).toNat by omega)]
  rw [em]
  simp only [if_pos (show -6 ≤ l + 1 ∧ l + 1 ≤ 6 by omega)]
  exact Ev.now _
 ·simp only [if_neg hn]
  rw [bnd (l01Power_ev h (by omega))]
  simp only [if_neg (pow_ne' h _)]
  rw [bnd (l01Power_ev h (by omega))]
  simp only [if_neg (pow_ne' h _)]
  obtain ⟨e, he, h1, h2, h3⟩ : ∃ e : Nat, mx (p ^ d.toNat) (p ^ (-l).toNat) = p ^ e ∧ e ≤ 6 ∧ d.toNat ≤ e ∧ (-l).toNat ≤ e := by
   unfold mx
   by_cases hc : d.toNat ≤ (-l).toNat
   ·refine ⟨(-l).toNat, ?_, by omega, hc, Nat.le_refl _⟩
    have := pow_mono h hc
    split <;> first | rfl | omega
   ·refine ⟨d.toNat, ?_, by omega, Nat.le_refl _, by omega⟩
    have := pow_mono h (show (-l).toNat ≤ d.toNat by omega)
    split <;> first | rfl | omega
  have q1 : Int.tdiv (p ^ e) (p ^ d.toNat) = p ^ (e - d.toNat) := by
   rw [← pow_split (show d.toNat + (e - d.toNat) = e by omega)]; exact tdiv_mul_left (pow_ne' h _)
  have q2 : Int.tdiv (p ^ e) (p ^ (-l).toNat) = p ^ (e - (-l).toNat) := by
   rw [← pow_split (show (-l).toNat + (e - (-l).toNat) = e by omega)]; exact tdiv_mul_left (pow_ne' h _)
  have b0 := pow_pos' h (e - d.toNat)
  have b1 := pow_le_seven h (m := e - d.toNat) (n := 6) (by omega)
  have c0 := pow_pos' h (e - (-l).toNat)
  have c1 := pow_le_seven h (m := e - (-l).toNat) (n := 6) (by omega)
  have w1 : wrap64 (p ^ (e - d.toNat)) = p ^ (e - d.toNat) := wrap_id (by omega) (by omega)
  have w2 : wrap64 (p ^ (e - (-l).toNat)) = p ^ (e - (-l).toNat) := wrap_id (by omega) (by omega)
  have m0 : 0 ≤ t * p ^ (e - d.toNat) := Int.mul_nonneg ht.1 (by omega)
  have m1 : t * p ^ (e - d.toNat) ≤ 13841287201 * 117649 := Int.mul_le_mul ht.2 (by omega) (by omega) (by omega)
  have m2 : 0 ≤ i * p ^ (e - (-l).toNat) := Int.mul_nonneg hi.1 (by omega)
  have m3 : i * p ^ (e - (-l).toNat) ≤ 7 * 117649 := Int.mul_le_mul (by omega) (by omega) (by omega) (by omega)
  have w3 : wrap64 (t * p ^ (e - d.toNat)) = t * p ^ (e - d.toNat) := wrap_id (by omega) (by omega)
  have w4 : wrap64 (i * p ^ (e - (-l).toNat)) = i * p ^ (e - (-l).toNat) := wrap_id (by omega) (by omega)
  have w5 : wrap64 (t * p ^ (e - d.toNat) + i * p ^ (e - (-l).toNat)) = t * p ^ (e - d.toNat) + i * p ^ (e - (-l).toNat) := wrap_id (by omega) (by omega)
  simp only [he, q1, q2, w1, w2, w3, w4, w5]
  have hof := l01Of_pow (p := p) (t := t * p ^ (e - d.toNat) + i * p ^ (e - (-l).toNat)) (d := (e : Int)) (level := l + 1) h (by omega) (by omega)
  rw [Int.toNat_natCast] at hof
  rw [bnd hof]
  have em : mk p (t * p ^ (e - d.toNat) + i * p ^ (e - (-l).toNat)) (e : Int) = mk p t d + i * p ^ (l + 6).toNat := by
   unfold mk
   rw [Int.add_mul, Int.mul_assoc, Int.mul_assoc, pow_split (show e - d.toNat + (6 - (e : Int)).toNat = (6 - d).toNat by omega), pow_split (show e - (-l).toNat + (6 - (e : Int)).toNat = (l + 6).toNat by omega)]
  rw [em]
  simp only [if_pos (show -6 ≤ l + 1 ∧ l + 1 ≤ 6 by omega)]
  exact Ev.now _
def kids (p l t d : Int) (i : Nat) : Nat → List S27
 | 0 => []
 | n + 1 => ⟨(ChR p l t d i).1, (ChR p l t d i).2.1, (ChR p l t d i).2.2.1⟩ :: kids p l t d (i + 1) n
theorem kids_length (p l t d : Int) (n : Nat) : ∀ i, (kids p l t d i n).length = n := by
 induction n with
 | zero => intro i; rfl
 | succ n ih => intro i; rw [show kids p l t d i (n + 1) = _ :: kids p l t d (i + 1) n from rfl, List.length_cons, ih]
theorem ChR_no (p t d i : Int) : ChR p 6 t d i = (0, 0, 0, false) := if_pos rfl
theorem ChR_ok {p l t d i : Int} (hl : l ≠ 6) : (ChR p l t d i).2.2.2 = true := by unfold ChR; rw [if_neg hl]
theorem kids_l {p l t d : Int} (h : IsP p) (hb : Bal p l t d) (hl : l ≠ 6) : ∀ (n i : Nat) (acc : List S27), (i : Int) + n = p → acc.length + n ≤ 1000 → Ev (fun k => spec_l02Children.l0 k p acc i l t d) (acc ++ kids p l t d i n, true) := by
 have h7 := h.le_seven
 intro n
 induction n with
 | zero =>
  intro i acc hi ha
  refine Ev.step (fun k => by rw [spec_l02Children.l0]) ?_
  simp only [if_neg (show ¬ (i : Int) < p by omega)]
  exact ev_some (by rw [show kids p l t d i 0 = [] from rfl, List.append_nil])
 | succ n ih =>
  intro i acc hi ha
  refine Ev.step (fun k => by rw [spec_l02Children.l0]) ?_
  have hlt : acc.length < 5864062014805 := Nat.lt_of_le_of_lt (Nat.le_trans (Nat.le_add_right _ _) ha) (by omega)
  have e : wrap64 ((i : Int) + 1) = ((i + 1 : Nat) : Int) := by rw [wrap_id (by omega) (by omega)]; omega
  simp only [if_pos (show (i : Int) < p by omega)]
  rw [bnd (l01Child_ev h hb (by omega))]
  simp only [ChR_ok hl, if_true, if_pos hlt, e]
  have hx := ih (i + 1) (acc ++ [⟨(ChR p l t d i).1, (ChR p l t d i).2.1, (ChR p l t d i).2.2.1⟩]) (by omega) (by rw [List.length_append, List.length_singleton]; omega)
  rw [List.append_assoc] at hx
  exact hx
def KidsR (p l t d : Int) : List S27 × Bool := if l = 6 then ([], false) else (kids p l t d 0 p.toNat, true)
theorem l02Children_ev {p l t d : Int} (h : IsP p) (hb : Bal p l t d) : Ev (fun k => spec_l02Children.f k p l t d) (KidsR p l t d) := by
 unfold spec_l02Children.f KidsR
 have h2 := h.two_le
 have h7 := h.le_seven
 by_cases hl : l = 6
 ·subst hl
  refine Ev.step (fun k => by rw [spec_l02Children.l0]) ?_
  simp only [if_pos (show (0 : Int) < p by omega), if_true]
  rw [bnd (l01Child_ev h hb (show (0 : Int) ≤ 0 ∧ (0 : Int) < p by omega))]
  simp only [ChR_no, if_neg Bool.false_ne_true]
  exact Ev.now _
 ·rw [if_neg hl]
  exact kids_l h hb hl p.toNat 0 [] (by omega) (by simp only [List.length_nil]; omega)
def parL (p l t d : Int) : S27 := ⟨(ParR p l t d).1, (ParR p l t d).2.1, (ParR p l t d).2.2.1⟩
def dnB (p x : Int) (hi : Int) : Nat → List S27
 | 0 => []
 | n + 1 => ⟨hi, ofMt p hi x, (ofMd p hi x : Int)⟩ :: dnB p x (hi - 1) n
def upB (p x : Int) (lo : Int) : Nat → List S27
 | 0 => []
 | n + 1 => ⟨lo, ofMt p lo x, (ofMd p lo x : Int)⟩ :: upB p x (lo + 1) n
theorem dnB_length (p x : Int) (n : Nat) : ∀ hi, (dnB p x hi n).length = n := by
 induction n with
 | zero => intro hi; rfl
 | succ n ih => intro hi; rw [show dnB p x hi (n + 1) = _ :: dnB p x (hi - 1) n from rfl, List.length_cons, ih]
theorem upB_length (p x : Int) (n : Nat) : ∀ lo, (upB p x lo n).length = n := by
 induction n with
 | zero => intro lo; rfl
 | succ n ih => intro lo; rw [show upB p x lo (n + 1) = _ :: upB p x (lo + 1) n from rfl, List.length_cons, ih]
theorem geo_up {p l t d : Int} (h : IsP p) (hb : Bal p l t d) : ∀ (n : Nat) (lo : Int) (acc : List S27), -6 ≤ lo → lo + n = l + 1 → acc.length + n ≤ 1000 → Ev (fun k => impl_geodesic.l1 k p acc lo l t d) (acc ++ upB p (mk p t d) lo n) := by
 have hr : -6 ≤ l ∧ l ≤ 6 := by unfold Bal at hb; omega
 intro n
 induction n with
 | zero =>
  intro lo acc h0 h1 ha
  refine Ev.step (fun k => by rw [impl_geodesic.l1]) ?_
  simp only [if_neg (show ¬ lo ≤ l by omega)]
  exact ev_some (by rw [show upB p (mk p t d) lo 0 = [] from rfl, List.append_nil])
 | succ n ih =>
  intro lo acc h0 h1 ha
  refine Ev.step (fun k => by rw [impl_geodesic.l1]) ?_
  have hlt : acc.length < 5864062014805 := Nat.lt_of_le_of_lt (Nat.le_trans (Nat.le_add_right _ _) ha) (by omega)
  have e : wrap64 (lo + 1) = lo + 1 := wrap_id (by omega) (by omega)
  simp only [if_pos (show lo ≤ l by omega)]
  rw [bnd (above_ev h hb (by omega))]
  simp only [if_pos hlt, e]
  have hx := ih (lo + 1) (acc ++ [⟨lo, ofMt p lo (mk p t d), (ofMd p lo (mk p t d) : Int)⟩]) (by omega) (by omega) (by rw [List.length_append, List.length_singleton]; omega)
  rw [List.append_assoc] at hx
  exact hx
theorem way_up {p l t d : Int} (h : IsP p) (hb : Bal p l t d) : ∀ (n : Nat) (lo : Int) (acc : List S27), -6 ≤ lo → lo + n = l + 1 → acc.length + n ≤ 1000 → Ev (fun k => spec_l02Way.l1 k p acc lo l t d) (acc ++ upB p (mk p t d) lo n, true) := by
 have hr : -6 ≤ l ∧ l ≤ 6 := by unfold Bal at hb; omega
 intro n
 induction n with
 | zero =>
  intro lo acc h0 h1 ha
  refine Ev.step (fun k => by rw [spec_l02Way.l1]) ?_
  simp only [if_neg (show ¬ lo ≤ l by omega)]
  exact ev_some (by rw [show upB p (mk p t d) lo 0 = [] from rfl, List.append_nil])
 | succ n ih =>
  intro lo acc h0 h1 ha
  refine Ev.step (fun k => by rw [spec_l02Way.l1]) ?_
  have hlt : acc.length < 5864062014805 := Nat.lt_of_le_of_lt (Nat.le_trans (Nat.le_add_right _ _) ha) (by omega)
  have e : wrap64 (lo + 1) = lo + 1 := wrap_id (by omega) (by omega)
  simp only [if_pos (show lo ≤ l by omega)]
  rw [bnd (l02Up_ev h hb (by omega))]
  simp only [if_true, if_pos hlt, e]
  have hx := ih (lo + 1) (acc ++ [⟨lo, ofMt p lo (mk p t d), (ofMd p lo (mk p t d) : Int)⟩]) (by omega) (by omega) (by rw [List.length_append, List.length_singleton]; omega)
  rw [List.append_assoc] at hx
  exact hx
theorem geo_dn {p l t d l' t' d' j : Int} (h : IsP p) (hb : Bal p l t d) (hb' : Bal p l' t' d') (hj : -6 ≤ j ∧ j ≤ l ∧ j ≤ l') : ∀ (n : Nat) (hi : Int) (acc : List S27), hi ≤ 6 → hi + 1 = j + n → acc.length + n ≤ 500 → Ev (fun k => impl_geodesic.l0 k p j acc hi l t d l' t' d') (acc ++ (dnB p (mk p t d) hi n ++ upB p (mk p t' d') (j + 1) (l' - j).toNat)) := by
 have hr : -6 ≤ l ∧ l ≤ 6 := by unfold Bal at hb; omega
 have hr' : -6 ≤ l' ∧ l' ≤ 6 := by unfold Bal at hb'; omega
 intro n
 induction n with
 | zero =>
  intro hi acc h0 h1 ha
  refine Ev.step (fun k => by rw [impl_geodesic.l0]) ?_
  have e : wrap64 (j + 1) = j + 1 := wrap_id (by omega) (by omega)
  simp only [if_neg (show ¬ hi ≥ j by omega), e]
  rw [show dnB p (mk p t d) hi 0 = [] from rfl, List.nil_append]
  exact geo_up h hb' (l' - j).toNat (j + 1) acc (by omega) (by omega) (by omega)
 | succ n ih =>
  intro hi acc h0 h1 ha
  refine Ev.step (fun k => by rw [impl_geodesic.l0]) ?_
  have hlt : acc.length < 5864062014805 := Nat.lt_of_le_of_lt (Nat.le_trans (Nat.le_add_right _ _) ha) (by omega)
  have e : wrap64 (hi - 1) = hi - 1 := wrap_id (by omega) (by omega)
  simp only [if_pos (show hi ≥ j by omega)]
  rw [bnd (above_ev h hb (by omega))]
  simp only [if_pos hlt, e]
  have hx := ih (hi - 1) (acc ++ [⟨hi, ofMt p hi (mk p t d), (ofMd p hi (mk p t d) : Int)⟩]) (by omega) (by omega) (by rw [List.length_append, List.length_singleton]; omega)
  rw [List.append_assoc] at hx
  exact hx
theorem way_dn {p l t d l' t' d' j : Int} (h : IsP p) (hb : Bal p l t d) (hb' : Bal p l' t' d') (hj : -6 ≤ j ∧ j ≤ l ∧ j ≤ l') : ∀ (n : Nat) (hi : Int) (acc : List S27), hi ≤ 6 → hi + 1 = j + n → acc.length + n ≤ 500 → Ev (fun k => spec_l02Way.l0 k p j acc hi l t d l' t' d') (acc ++ (dnB p (mk p t d) hi n ++ upB p (mk p t' d') (j + 1) (l' - j).toNat), true) := by
 have hr : -6 ≤ l ∧ l ≤ 6 := by unfold Bal at hb; omega
 have hr' : -6 ≤ l' ∧ l' ≤ 6 := by unfold Bal at hb'; omega
 intro n
 induction n with
 | zero =>
  intro hi acc h0 h1 ha
  refine Ev.step (fun k => by rw [spec_l02Way.l0]) ?_
  have e : wrap64 (j + 1) = j + 1 := wrap_id (by omega) (by omega)
  simp only [if_neg (show ¬ hi ≥ j by omega), e]
  rw [show dnB p (mk p t d) hi 0 = [] from rfl, List.nil_append]
  exact way_up h hb' (l' - j).toNat (j + 1) acc (by omega) (by omega) (by omega)
 | succ n ih =>
  intro hi acc h0 h1 ha
  refine Ev.step (fun k => by rw [spec_l02Way.l0]) ?_
  have hlt : acc.length < 5864062014805 := Nat.lt_of_le_of_lt (Nat.le_trans (Nat.le_add_right _ _) ha) (by omega)
  have e : wrap64 (hi - 1) = hi - 1 := wrap_id (by omega) (by omega)
  simp only [if_pos (show hi ≥ j by omega)]
  rw [bnd (l02Up_ev h hb (by omega))]
  simp only [if_true, if_pos hlt, e]
  have hx := ih (hi - 1) (acc ++ [⟨hi, ofMt p hi (mk p t d), (ofMd p hi (mk p t d) : Int)⟩]) (by omega) (by omega) (by rw [List.length_append, List.length_singleton]; omega)
  rw [List.append_assoc] at hx
  exact hx
def GeoL (p l t d l' t' d' : Int) : List S27 := dnB p (mk p t d) l (l + 1 - joinL p l t d l' t' d').toNat ++ upB p (mk p t' d') (joinL p l t d l' t' d' + 1) (l' - joinL p l t d l' t' d').toNat
theorem join_least {p l t d l' t' d' : Int} (hb : Bal p l t d) (hb' : Bal p l' t' d') : -6 ≤ joinL p l t d l' t' d' ∧ joinL p l t d l' t' d' ≤ l ∧ joinL p l t d l' t' d' ≤ l' := by
 have h1 := joinL_le (p := p) (la := l) (ta := t) (da := d) (lb := l') (tb := t') (db := d')
 have h2 := joinL_range hb hb'
 omega
theorem geodesic_ev {p l t d l' t' d' : Int} (h : IsP p) (hb : Bal p l t d) (hb' : Bal p l' t' d') : Ev (fun k => impl_geodesic.f k p l t d l' t' d') (GeoL p l t d l' t' d') := by
 unfold impl_geodesic.f GeoL
 rw [bnd (joinLevel_ev h hb hb')]
 have hj := join_least hb hb'
 have hr : l ≤ 6 := by unfold Bal at hb; omega
 have := geo_dn h hb hb' hj (l + 1 - joinL p l t d l' t' d').toNat l [] hr (by omega) (by rw [List.length_nil]; omega)
 rw [List.nil_append] at this
 exact this
theorem l02Way_ev {p l t d l' t' d' : Int} (h : IsP p) (hb : Bal p l t d) (hb' : Bal p l' t' d') : Ev (fun k => spec_l02Way.f k p l t d l' t' d') (GeoL p l t d l' t' d', true) := by
 unfold spec_l02Way.f GeoL
 rw [bnd (l02Join_ev h hb hb')]
 have hj := join_least hb hb'
 have hr : l ≤ 6 := by unfold Bal at hb; omega
 have := way_dn h hb hb' hj (l + 1 - joinL p l t d l' t' d').toNat l [] hr (by omega) (by rw [List.length_nil]; omega)
 rw [List.nil_append] at this
 exact this
def GeoR (p l t d l' t' d' : Int) : List S27 × Int := if IsP p ∧ Bal p l t d ∧ Bal p l' t' d' then (GeoL p l t d l' t' d', 0) else ([], 1)
theorem GeoR_length (p l t d l' t' d' : Int) : (GeoR p l t d l' t' d').1.length ≤ 1000 := by
 unfold GeoR
 split
 ·rename_i h
  have hj := join_least h.2.1 h.2.2
  have hr : l ≤ 6 ∧ l' ≤ 6 := by have a := h.2.1; have b := h.2.2; unfold Bal at a b; omega
  show (GeoL p l t d l' t' d').length ≤ 1000
  unfold GeoL
  rw [List.length_append, dnB_length, upB_length]
  omega
 ·simp only [List.length_nil]; omega
theorem implGeodesicOf_ev {p l t d l' t' d' : Int} (hl : -9223372036854775808 ≤ l ∧ l ≤ 9223372036854775807) (hd : -9223372036854775808 ≤ d ∧ d ≤ 9223372036854775807)
  (hl' : -9223372036854775808 ≤ l' ∧ l' ≤ 9223372036854775807) (hd' : -9223372036854775808 ≤ d' ∧ d' ≤ 9223372036854775807) : Ev (fun k => impl_GeodesicOf.f k p l t d l' t' d') (GeoR p l t d l' t' d') := by
 unfold impl_GeodesicOf.f GeoR
 rw [bnd (areBalls2 hl hd hl' hd')]
 by_cases h : IsP p ∧ Bal p l t d ∧ Bal p l' t' d'
 ·simp only [h, and_self, decide_true, if_true]
  rw [bnd (geodesic_ev h.1 h.2.1 h.2.2)]
  exact Ev.now _
 ·simp only [h, decide_false, if_neg Bool.false_ne_true, if_false]; exact Ev.now _
theorem specGeodesicOf_ev {p l t d l' t' d' : Int} (hl : -9223372036854775808 ≤ l ∧ l ≤ 9223372036854775807) (hd : -9223372036854775808 ≤ d ∧ d ≤ 9223372036854775807)
  (hl' : -9223372036854775808 ≤ l' ∧ l' ≤ 9223372036854775807) (hd' : -9223372036854775808 ≤ d' ∧ d' ≤ 9223372036854775807) : Ev (fun k => spec_GeodesicOf.f k p l t d l' t' d') (GeoR p l t d l' t' d') := by
 unfold spec_GeodesicOf.f GeoR
 rw [bnd (l01Code2 hl hd hl' hd')]
 by_cases h : IsP p ∧ Bal p l t d ∧ Bal p l' t' d'
 ·simp only [h, and_self, if_true]
  rw [bnd (l02Way_ev h.1 h.2.1 h.2.2)]
  exact Ev.now _
 ·simp only [h, if_false, if_neg (show ¬ (1 : Int) = 0 by omega)]; exact Ev.now _
def Src (l : List Int) (at_ : Int) : Prop := (∀ x ∈ l, 0 ≤ x ∧ x ≤ 255) ∧ 0 ≤ at_ ∧ at_ ≤ l.length ∧ l.length ≤ 4096
theorem mask34 {x : Int} (h0 : 0 ≤ x) (h1 : x < 18446744073709551616) : Go.bits .and .u64 x 17179869183 = x % 17179869184 := by
 have := bits_mask .u64 64 (by decide) wraps_u64 34 (by decide) x h0 (by simpa using h1)
 simpa using this
theorem rd_mem {l : List Int} {i : Int} (h0 : 0 ≤ i) (h1 : i < l.length) : rd l i ∈ l := by
 unfold rd
 rw [List.getD_eq_getElem?_getD, List.getElem?_eq_getElem (by omega)]
 exact List.getElem_mem _
theorem tmod_in {x n : Int} (h0 : 0 ≤ x) (h1 : 1 ≤ n) : 0 ≤ Int.tmod x n ∧ Int.tmod x n < n := by
 rw [Int.tmod_eq_emod_of_nonneg h0]
 exact ⟨Int.emod_nonneg _ (by omega), Int.emod_lt_of_pos _ (by omega)⟩
theorem next_eq {l : List Int} {c h n : Int} (hs : Src l c) (hn : 1 ≤ n) : ∃ x c' h', spec_l01Next.f l c h n = some (x, c', h') ∧ (0 ≤ x ∧ x < n) ∧ Src l c' := by
 obtain ⟨hb, c0, c1, hl⟩ := hs
 unfold spec_l01Next.f
 simp only [if_neg (show ¬ n < 1 by omega), if_neg (show ¬ n = 0 by omega)]
 have hw : ∀ y : Int, (0 ≤ IntKind.u64.wrap y / 8388608) ∧ IntKind.u64.wrap y / 8388608 < 18446744073709551616 := fun y => by rw [wrapu]; omega
 rw [mask34 (hw _).1 (hw _).2]
 generalize IntKind.u64.wrap (IntKind.u64.wrap (h * 6364136223846793005) + 1442695040888963407) = H
 have hm : 0 ≤ H / 8388608 % 17179869184 ∧ H / 8388608 % 17179869184 < 17179869184 := by omega
 generalize H / 8388608 % 17179869184 = y at *
 rw [wrap_id (x := y) (by omega) (by omega)]
 by_cases hc : c < (l.length : Int)
 ·have hr := hb _ (rd_mem c0 hc)
  simp only [if_pos hc, if_pos c0]
  rw [wrap_id (x := rd l c) (by omega) (by omega), wrap_id (x := y + rd l c) (by omega) (by omega), wrap_id (x := c + 1) (by omega) (by omega)]
  exact ⟨_, _, _, rfl, tmod_in (by omega) hn, hb, by omega, by omega, hl⟩
 ·simp only [if_neg hc]
  exact ⟨_, _, _, rfl, tmod_in (by omega) hn, hb, c0, c1, hl⟩
theorem pick_eq {l : List Int} {c h : Int} {xs : List Int} (hs : Src l c) (hx : 1 ≤ xs.length) (hx' : xs.length ≤ 1000) : ∃ x c' h', spec_l01Pick.f l c h xs = some (x, c', h') ∧ x ∈ xs ∧ Src l c' := by
 unfold spec_l01Pick.f
 obtain ⟨x, c', h', e, hr, hs'⟩ := next_eq (h := h) hs (show 1 ≤ (xs.length : Int) by omega)
 rw [e]
 simp only [Option.bind_some, if_pos hr.1, if_pos hr.2]
 exact ⟨_, _, _, rfl, rd_mem hr.1 hr.2, hs'⟩
theorem from_l {l : List Int} : ∀ (d i : Nat) (h : Int), i + d = l.length → ∃ h', Ev (fun k => spec_l01From.l0 k l i l 0 h) (l, 0, h') := by
 intro d
 induction d with
 | zero =>
  intro i h hi
  refine ⟨h, Ev.step (fun k => by rw [spec_l01From.l0]) ?_⟩
  simp only [if_neg (show ¬ (i : Int) < (l.length : Int) by omega)]
  exact Ev.now _
 | succ d ih =>
  intro i h hi
  by_cases h4 : (i : Int) < 4096
  ·obtain ⟨h', e⟩ := ih (i + 1) (IntKind.u64.wrap ((IntKind.u64.wrap ((IntKind.u64.wrap (h * 1099511628211)) + (IntKind.u64.wrap (rd l i)))) + 71)) (by omega)
   refine ⟨h', Ev.step (fun k => by rw [spec_l01From.l0]) ?_⟩
   simp only [if_pos (show (i : Int) < (l.length : Int) by omega), if_pos h4, if_pos (show (0 : Int) ≤ i by omega)]
   rw [wrap_id (x := (i : Int) + 1) (by omega) (by omega)]
   exact e
  ·refine ⟨h, Ev.step (fun k => by rw [spec_l01From.l0]) ?_⟩
   simp only [if_pos (show (i : Int) < (l.length : Int) by omega), if_neg h4]
   exact Ev.now _
theorem from_ev {l : List Int} (hb : ∀ x ∈ l, (Lit.int .u8 x).wf = true) (hl : l.length ≤ 4096) : ∃ h, Ev (fun k => spec_l01From.f k l) (l, 0, h) ∧ Src l 0 := by
 obtain ⟨h, e⟩ := from_l (l := l) l.length 0 (IntKind.u64.wrap (12527 + (IntKind.u64.wrap ((l.length : Int))))) (by omega)
 refine ⟨h, e, fun x hx => ?_, by omega, by omega, hl⟩
 have := hb x hx
 simp [Lit.wf, IntKind.min, IntKind.max, IntKind.signed, IntKind.bits] at this; omega
def Sm (x : Int) : Prop := -4000000000000 ≤ x ∧ x ≤ 4000000000000
def SmB (l t d : Int) : Prop := Sm l ∧ Sm t ∧ Sm d
theorem Bal.sm {p l t d : Int} (hp : IsP p) (h : Bal p l t d) : (-6 ≤ l ∧ l ≤ 6) ∧ (0 ≤ t ∧ t ≤ 13841287201) ∧ 0 ≤ d ∧ d ≤ 6 := by
 have h1 := h.small hp
 unfold Bal at h
 split at h <;> omega
theorem Bal.zero {p l : Int} (hp : IsP p) (h : -6 ≤ l ∧ l ≤ 6) : Bal p l 0 0 := by
 by_cases hl : l + 0 ≤ 0
 ·rw [Bal_low hl]; omega
 ·rw [Bal_high hl]
  have := pow_pos' hp (l + 0).toNat
  exact ⟨h.1, h.2, by omega, by omega, by omega, this, .inl rfl⟩
theorem drawBall_ev {l : List Int} {c h p : Int} (hp : IsP p) (hs : Src l c) : ∃ lv t d c' h', Ev (fun k => spec_l01Draw.f k l c h p) (lv, t, d, c', h') ∧ Bal p lv t d ∧ Src l c' := by
 unfold spec_l01Draw.f
 obtain ⟨x1, c1, h1, e1, r1, s1⟩ := next_eq (h := h) hs (show (1 : Int) ≤ 13 by omega)
 obtain ⟨lv, c2, h2, e2, r2, s2⟩ := pick_eq (h := h1) (xs := [0, 1, 2, 3, wrap64 (x1 - 6)]) s1 (by simp) (by simp)
 obtain ⟨x3, c3, h3, e3, r3, s3⟩ := next_eq (h := h2) s2 (show (1 : Int) ≤ 6 by omega)
 have hlv : -6 ≤ lv ∧ lv ≤ 6 := by
  rw [wrap_id (x := x1 - 6) (by omega) (by omega)] at r2
  simp only [List.mem_cons, List.not_mem_nil, or_false] at r2; omega
 simp only [e1, e2, e3, Option.bind_some]
 by_cases h0 : x3 = 0
 ·simp only [if_pos h0]
  exact ⟨_, _, _, _, _, Ev.now _, Bal.zero hp hlv, s3⟩
 ·simp only [if_neg h0]
  obtain ⟨x4, c4, h4, e4, r4, s4⟩ := next_eq (h := h3) s3 (show (1 : Int) ≤ 20 by omega)
  obtain ⟨x5, c5, h5, e5, r5, s5⟩ := next_eq (h := h4) s4 (show (1 : Int) ≤ 2000000 by omega)
  obtain ⟨nm, c6, h6, e6, r6, s6⟩ := pick_eq (h := h5) (xs := [wrap64 (x4 - 10), wrap64 (x5 - 1000000)]) s5 (by simp) (by simp)
  obtain ⟨x7, c7, h7, e7, r7, s7⟩ := next_eq (h := h6) s6 (show (1 : Int) ≤ 7 by omega)
  obtain ⟨ex, c8, h8, e8, r8, s8⟩ := pick_eq (h := h7) (xs := [0, 0, 1, 2, x7]) s7 (by simp) (by simp)
  have hnm : -1000000 ≤ nm ∧ nm ≤ 1000000 := by
   rw [wrap_id (x := x4 - 10) (by omega) (by omega), wrap_id (x := x5 - 1000000) (by omega) (by omega)] at r6
   simp only [List.mem_cons, List.not_mem_nil, or_false] at r6; omega
  have hex : 0 ≤ ex ∧ ex ≤ 6 := by
   simp only [List.mem_cons, List.not_mem_nil, or_false] at r8; omega
  simp only [e4, e5, e6, e7, e8, Option.bind_some]
  have hof := l01Of_pow (t := nm) (level := lv) hp hex (by omega)
  rw [if_pos hlv] at hof
  refine ⟨lv, ofMt p lv (mk p nm ex), (ofMd p lv (mk p nm ex) : Int), c8, h8, ?_, ofM_bal hp hlv.1 hlv.2 _, s8⟩
  rw [bnd (l01Power_ev hp (show ex ≤ 22 by omega)), bnd hof]
  simp only [if_true]
  exact Ev.now _
theorem bad_eq {l : List Int} {c h lv t d : Int} (hs : Src l c) (hb : (-6 ≤ lv ∧ lv ≤ 6) ∧ (0 ≤ t ∧ t ≤ 13841287201) ∧ 0 ≤ d ∧ d ≤ 6) : ∃ lv' t' d' c' h', spec_l01Bad.f l c h lv t d = some (lv', t', d', c', h') ∧ SmB lv' t' d' ∧ Src l c' := by
 unfold spec_l01Bad.f SmB Sm
 obtain ⟨x1, c1, h1, e1, r1, s1⟩ := next_eq (h := h) hs (show (1 : Int) ≤ 40 by omega)
 simp only [e1, Option.bind_some]
 by_cases z0 : x1 = 0
 ·obtain ⟨y, c2, h2, e2, r2, s2⟩ := pick_eq (h := h1) (xs := [-7, 7, wrap64 (lv - 1), 1099511627776]) s1 (by simp) (by simp)
  simp only [if_pos z0, e2, Option.bind_some]
  rw [wrap_id (x := lv - 1) (by omega) (by omega)] at r2
  simp only [List.mem_cons, List.not_mem_nil, or_false] at r2
  exact ⟨_, _, _, _, _, rfl, by omega, s2⟩
 ·simp only [if_neg z0]
  by_cases z1 : x1 = 1
  ·obtain ⟨y, c2, h2, e2, r2, s2⟩ := pick_eq (h := h1) (xs := [-1, wrap64 (t * 7), 1099511627776]) s1 (by simp) (by simp)
   simp only [if_pos z1, e2, Option.bind_some]
   rw [wrap_id (x := t * 7) (by omega) (by omega)] at r2
   simp only [List.mem_cons, List.not_mem_nil, or_false] at r2
   exact ⟨_, _, _, _, _, rfl, by omega, s2⟩
  ·simp only [if_neg z1]
   by_cases z2 : x1 = 2
   ·obtain ⟨y, c2, h2, e2, r2, s2⟩ := pick_eq (h := h1) (xs := [-1, wrap64 (d + 1), 7]) s1 (by simp) (by simp)
    simp only [if_pos z2, e2, Option.bind_some]
    rw [wrap_id (x := d + 1) (by omega) (by omega)] at r2
    simp only [List.mem_cons, List.not_mem_nil, or_false] at r2
    exact ⟨_, _, _, _, _, rfl, by omega, s2⟩
   ·simp only [if_neg z2]
    exact ⟨_, _, _, _, _, rfl, by omega, s1⟩
theorem prime_eq {l : List Int} {c h : Int} (hs : Src l c) : ∃ p c' h', spec_l01DrawPrime.f l c h = some (p, c', h') ∧ IsP p ∧ Src l c' := by
 unfold spec_l01DrawPrime.f
 obtain ⟨p, c1, h1, e1, r1, s1⟩ := pick_eq (h := h) (xs := [2, 2, 3, 3, 5, 7]) hs (by simp) (by simp)
 simp only [e1, Option.bind_some]
 refine ⟨_, _, _, rfl, ?_, s1⟩
 simp only [List.mem_cons, List.not_mem_nil, or_false] at r1
 unfold IsP; omega
theorem spoil_ev {l : List Int} {c h : Int} (hs : Src l c) : ∃ p lv t d c' h', Ev (fun k => spec_l01Spoil.f k l c h) (p, lv, t, d, c', h') ∧ Sm p ∧ SmB lv t d ∧ Src l c' := by
 unfold spec_l01Spoil.f
 obtain ⟨p, c1, h1, e1, r1, s1⟩ := prime_eq (h := h) hs
 obtain ⟨lv, t, d, c2, h2, e2, r2, s2⟩ := drawBall_ev (h := h1) r1 s1
 obtain ⟨lv', t', d', c3, h3, e3, r3, s3⟩ := bad_eq (h := h2) s2 (Bal.sm r1 r2)
 obtain ⟨x4, c4, h4, e4, r4, s4⟩ := next_eq (h := h3) s3 (show (1 : Int) ≤ 40 by omega)
 by_cases z : x4 = 0
 ·obtain ⟨q, c5, h5, e5, r5, s5⟩ := pick_eq (h := h4) (xs := [0, 1, 4, 11, -3]) s4 (by simp) (by simp)
  refine ⟨q, lv', t', d', c5, h5, ?_, ?_, r3, s5⟩
  ·simp only [e1, Option.bind_some]
   rw [bnd e2]
   simp only [e3, e4, Option.bind_some, if_pos z, e5]
   exact Ev.now _
  ·simp only [List.mem_cons, List.not_mem_nil, or_false] at r5
   unfold Sm; omega
 ·refine ⟨p, lv', t', d', c4, h4, ?_, ?_, r3, s4⟩
  ·simp only [e1, Option.bind_some]
   rw [bnd e2]
   simp only [e3, e4, Option.bind_some, if_neg z]
   exact Ev.now _
  ·have := r1.two_le; have := r1.le_seven; unfold Sm; omega
theorem kid_dvd {p l t d i : Int} (h : IsP p) (hb : Bal p l t d) : p ^ (l + 6).toNat ∣ mk p (ofMt p (l + 1) (mk p t d + i * p ^ (l + 6).toNat)) (ofMd p (l + 1) (mk p t d + i * p ^ (l + 6).toNat)) - mk p t d := by
 have hr := Bal.sm h hb
 rw [ofM_mark h]
 have h1 := dvd_emod_sub (mk p t d + i * p ^ (l + 6).toNat) (p ^ (l + 1 + 6).toNat)
 have h2 : p ^ (l + 6).toNat ∣ p ^ (l + 1 + 6).toNat := pow_dvd (by omega)
 have h3 := Int.dvd_trans h2 h1
 have h4 : p ^ (l + 6).toNat ∣ i * p ^ (l + 6).toNat := ⟨i, Int.mul_comm _ _⟩
 have h5 := Int.dvd_add h3 h4
 rwa [show (mk p t d + i * p ^ (l + 6).toNat) % p ^ (l + 1 + 6).toNat - (mk p t d + i * p ^ (l + 6).toNat) + i * p ^ (l + 6).toNat = (mk p t d + i * p ^ (l + 6).toNat) % p ^ (l + 1 + 6).toNat - mk p t d by omega] at h5
theorem par_dvd {p l t d : Int} (h : IsP p) (hb : Bal p l t d) : p ^ (l - 1 + 6).toNat ∣ mk p t d - mk p (ofMt p (l - 1) (mk p t d)) (ofMd p (l - 1) (mk p t d)) := by
 rw [ofM_mark h]
 have h1 := Int.dvd_neg.2 (dvd_emod_sub (mk p t d) (p ^ (l - 1 + 6).toNat))
 rwa [show -(mk p t d % p ^ (l - 1 + 6).toNat - mk p t d) = mk p t d - mk p t d % p ^ (l - 1 + 6).toNat by omega] at h1
theorem mem_kids {p l t d : Int} {c : S27} : ∀ (n i : Nat), c ∈ kids p l t d i n → ∃ j : Int, c = ⟨(ChR p l t d j).1, (ChR p l t d j).2.1, (ChR p l t d j).2.2.1⟩ := by
 intro n
 induction n with
 | zero => intro i hc; simp [kids] at hc
 | succ n ih =>
  intro i hc
  rw [kids] at hc
  rcases List.mem_cons.1 hc with hc | hc
  ·exact ⟨i, hc⟩
  ·exact ih _ hc
def KidOf (p l t d : Int) (c : S27) : Prop := Bal p c.f0 c.f1 c.f2 ∧ c.f0 = l + 1 ∧ p ^ (l + 6).toNat ∣ mk p c.f1 c.f2 - mk p t d
theorem kidOf {p l t d : Int} (h : IsP p) (hb : Bal p l t d) (hl : l ≠ 6) {c : S27} {n i : Nat} (hc : c ∈ kids p l t d i n) : KidOf p l t d c := by
 have hr := Bal.sm h hb
 obtain ⟨j, rfl⟩ := mem_kids n i hc
 unfold ChR
 rw [if_neg hl]
 exact ⟨ofM_bal h (show -6 ≤ l + 1 by omega) (show l + 1 ≤ 6 by omega) _, rfl, kid_dvd h hb⟩
def ParOf (p l t d : Int) (c : S27) : Prop := Bal p c.f0 c.f1 c.f2 ∧ c.f0 = l - 1 ∧ p ^ (l - 1 + 6).toNat ∣ mk p t d - mk p c.f1 c.f2
theorem parOf {p l t d : Int} (h : IsP p) (hb : Bal p l t d) (hl : (ParR p l t d).2.2.2 = true) : ParOf p l t d ⟨(ParR p l t d).1, (ParR p l t d).2.1, (ParR p l t d).2.2.1⟩ := by
 unfold ParR at hl ⊢
 by_cases hz : -6 ≤ l - 1 ∧ l - 1 ≤ 6
 ·rw [if_pos hz]
  exact ⟨ofM_bal h hz.1 hz.2 _, rfl, par_dvd h hb⟩
 ·rw [if_neg hz] at hl
  exact absurd hl (by simp)
theorem balls9_l (l : List S27) (hl : l.length ≤ 1000000) : ∀ d i : Nat, i + d = l.length → Ev (fun k => laws_balls9.l0 k l l i) true := by
 intro d
 induction d with
 | zero =>
  intro i hi
  refine Ev.step (fun k => by rw [laws_balls9.l0]) ?_
  simp only [if_neg (show ¬ (i : Int) < (l.length : Int) by omega)]
  exact Ev.now _
 | succ d ih =>
  intro i hi
  refine Ev.step (fun k => by rw [laws_balls9.l0]) ?_
  simp only [if_pos (show (i : Int) < (l.length : Int) by omega), if_pos (show (0 : Int) ≤ i by omega), beq_self_eq_true, Bool.not_true, Bool.or_self, if_neg Bool.false_ne_true]
  rw [wrap_id (x := (i : Int) + 1) (by omega) (by omega)]
  exact ih (i + 1) (by omega)
theorem balls9_ev (l : List S27) (hl : l.length ≤ 1000000) : Ev (fun k => laws_balls9.f k l l) true := by
 unfold laws_balls9.f
 simp only [if_true]
 exact balls9_l l hl l.length 0 (by omega)
theorem nearAny_ev {p l t d : Int} (h : IsP p) (hb : Bal p l t d) : ∃ xs : List S27 × Bool, Ev (fun k => spec_l02Near.f k p l t d) xs ∧ (xs.2 = true → (xs.1.length : Int) = p + 1 ∧ ∀ c ∈ xs.1, Bal p c.f0 c.f1 c.f2) := by
 have h7 := h.le_seven
 have h2 := h.two_le
 have hlen : (KidsR p l t d).1.length ≤ 7 := by
  unfold KidsR
  by_cases hl : l = 6
  ·simp only [if_pos hl, List.length_nil]; omega
  ·simp only [if_neg hl, kids_length]; omega
 have hlt : [parL p l t d].length + (KidsR p l t d).1.length < 5864062014805 := by rw [List.length_singleton]; omega
 refine ⟨if (ParR p l t d).2.2.2 = true then (parL p l t d :: (KidsR p l t d).1, (KidsR p l t d).2) else (parL p l t d :: (KidsR p l t d).1, false), ?_, ?_⟩
 ·unfold spec_l02Near.f
  rw [bnd (l01Parent_ev h hb), bnd (l02Children_ev h hb)]
  have hlt' : [(⟨(ParR p l t d).1, (ParR p l t d).2.1, (ParR p l t d).2.2.1⟩ : S27)].length + (KidsR p l t d).1.length < 5864062014805 := hlt
  simp only [Option.bind_some]
  simp only [if_pos hlt']
  by_cases hp : (ParR p l t d).2.2.2 = true
  ·simp only [if_pos hp]; exact Ev.now _
  ·simp only [if_neg hp]; exact Ev.now _
 ·by_cases hp : (ParR p l t d).2.2.2 = true
  ·rw [if_pos hp]
   intro hk
   unfold KidsR at hk ⊢
   by_cases hl : l = 6
   ·rw [if_pos hl] at hk
    exact absurd hk (by simp)
   ·rw [if_neg hl]
    refine ⟨by rw [List.length_cons, kids_length]; omega, ?_⟩
    intro c hc
    rcases List.mem_cons.1 hc with rfl | hc
    ·exact (parOf h hb hp).1
    ·exact (kidOf h hb hl hc).1
  ·rw [if_neg hp]
   intro hk; exact absurd hk (by simp)
theorem rdB_mem {l : List S27} {i : Int} (h0 : 0 ≤ i) (h1 : i < l.length) : rd_T27 l i ∈ l := by
 unfold rd_T27
 rw [List.getD_eq_getElem?_getD, List.getElem?_eq_getElem (by omega)]
 exact List.getElem_mem _
theorem fine_eq (p : Int) : spec_l02Fine.f p = some (if IsP p then p else 3) := by
 unfold spec_l02Fine.f
 rw [l01Prime_eq]
 simp only [Option.bind_some]
 by_cases h : IsP p
 ·simp only [decide_eq_true h, if_true, if_pos h]
 ·simp only [decide_eq_false h, if_neg Bool.false_ne_true, if_neg h]
theorem fine_ok (p : Int) : IsP (if IsP p then p else 3) := by
 by_cases h : IsP p
 ·rw [if_pos h]; exact h
 ·rw [if_neg h]; unfold IsP; omega
theorem two_l0 {l : List Int} {p a0 a1 a2 : Int} (hp : IsP p) : ∀ (n : Nat) (c h lv t d : Int), n ≤ 10 → Src l c → Bal p lv t d → ∃ lv' t' d' c' h', Ev (fun k => spec_l02Two.l0 k p n l c h a0 a1 a2 lv t d) (p, a0, a1, a2, lv', t', d', c', h') ∧ SmB lv' t' d' ∧ Src l c' := by
 intro n
 have h2 := hp.two_le
 have h7 := hp.le_seven
 induction n with
 | zero =>
  intro c h lv t d hn hs hb
  obtain ⟨lv', t', d', c', h', e, r, s⟩ := bad_eq (h := h) hs (Bal.sm hp hb)
  refine ⟨lv', t', d', c', h', Ev.step (fun k => by rw [spec_l02Two.l0]) ?_, r, s⟩
  simp only [if_neg (show ¬ ((0 : Nat) : Int) > 0 by omega), e, Option.bind_some]
  exact Ev.now _
 | succ n ih =>
  intro c h lv t d hn hs hb
  obtain ⟨xs, ex, hx⟩ := nearAny_ev hp hb
  by_cases hk : xs.2 = true
  ·obtain ⟨x1, c1, h1, e1, r1, s1⟩ := next_eq (h := h) hs (show (1 : Int) ≤ p + 1 by omega)
   obtain ⟨hl, hm⟩ := hx hk
   have hb' := hm _ (rdB_mem (l := xs.1) r1.1 (by omega))
   obtain ⟨lv', t', d', c', h', e, r, s⟩ := ih c1 h1 _ _ _ (by omega) s1 hb'
   refine ⟨lv', t', d', c', h', Ev.step (fun k => by rw [spec_l02Two.l0]) ?_, r, s⟩
   simp only [if_pos (show ((n + 1 : Nat) : Int) > 0 by omega)]
   rw [bnd ex, wrap_id (x := p + 1) (by omega) (by omega)]
   simp only [if_pos hk, e1, Option.bind_some, if_pos r1.1, if_pos (show x1 < (xs.1.length : Int) by omega)]
   rw [show wrap64 (((n + 1 : Nat) : Int) - 1) = (n : Int) by rw [wrap_id (by omega) (by omega)]; omega]
   exact e
  ·obtain ⟨lv', t', d', c', h', e, r, s⟩ := ih c h lv t d (by omega) hs hb
   refine ⟨lv', t', d', c', h', Ev.step (fun k => by rw [spec_l02Two.l0]) ?_, r, s⟩
   simp only [if_pos (show ((n + 1 : Nat) : Int) > 0 by omega)]
   rw [bnd ex]
   simp only [if_neg hk]
   rw [show wrap64 (((n + 1 : Nat) : Int) - 1) = (n : Int) by rw [wrap_id (by omega) (by omega)]; omega]
   exact e
theorem two_ev {l : List Int} {c h : Int} (hs : Src l c) : ∃ p a0 a1 a2 lv t d c' h', Ev (fun k => spec_l02Two.f k l c h) (p, a0, a1, a2, lv, t, d, c', h') ∧ Sm p ∧ SmB a0 a1 a2 ∧ SmB lv t d ∧ Src l c' := by
 unfold spec_l02Two.f
 obtain ⟨p, a0, a1, a2, c1, h1, e1, r1, w1, s1⟩ := spoil_ev (h := h) hs
 obtain ⟨lv, t, d, c2, h2, e2, r2, s2⟩ := drawBall_ev (h := h1) (fine_ok p) s1
 have no : ∀ c h, Src l c → ∃ lv' t' d' c' h', Ev (fun k => spec_l02Two.j0 k p false l c h a0 a1 a2 lv t d) (p, a0, a1, a2, lv', t', d', c', h') ∧ SmB lv' t' d' ∧ Src l c' := by
  intro c h hs
  obtain ⟨lv', t', d', c', h', e, r, s⟩ := bad_eq (h := h) hs (Bal.sm (fine_ok p) r2)
  refine ⟨lv', t', d', c', h', Ev.step (fun k => by rw [spec_l02Two.j0]) ?_, r, s⟩
  simp only [if_neg Bool.false_ne_true, e, Option.bind_some]
  exact Ev.now _
 have w1' := w1
 unfold SmB Sm at w1'
 by_cases hp : IsP p
 ·by_cases hb : Bal p a0 a1 a2
  ·obtain ⟨x3, c3, h3, e3, r3, s3⟩ := next_eq (h := h2) s2 (show (1 : Int) ≤ 2 by omega)
   by_cases hz : x3 = 0
   ·obtain ⟨x4, c4, h4, e4, r4, s4⟩ := next_eq (h := h3) s3 (show (1 : Int) ≤ 5 by omega)
    obtain ⟨lv', t', d', c', h', e, r, s⟩ := two_l0 (a0 := a0) (a1 := a1) (a2 := a2) hp x4.toNat c4 h4 a0 a1 a2 (by omega) s4 hb
    rw [show (x4.toNat : Int) = x4 by omega] at e
    refine ⟨p, a0, a1, a2, lv', t', d', c', h', ?_, r1, w1, r, s⟩
    rw [bnd e1]
    simp only [fine_eq, l01Prime_eq, Option.bind_some]
    rw [bnd e2]
    simp only [decide_eq_true hp, if_true]
    rw [bnd (l01Is_ev (by omega) (by omega))]
    simp only [decide_eq_true (show IsP p ∧ Bal p a0 a1 a2 from ⟨hp, hb⟩), if_true, e3, Option.bind_some]
    rw [show (x3 == 0) = true from beq_iff_eq.2 hz]
    refine Ev.step (fun k => by rw [spec_l02Two.j0]) ?_
    simp only [if_true, e4, Option.bind_some]
    exact e
   ·obtain ⟨lv', t', d', c', h', e, r, s⟩ := no c3 h3 s3
    refine ⟨p, a0, a1, a2, lv', t', d', c', h', ?_, r1, w1, r, s⟩
    rw [bnd e1]
    simp only [fine_eq, l01Prime_eq, Option.bind_some]
    rw [bnd e2]
    simp only [decide_eq_true hp, if_true]
    rw [bnd (l01Is_ev (by omega) (by omega))]
    simp only [decide_eq_true (show IsP p ∧ Bal p a0 a1 a2 from ⟨hp, hb⟩), if_true, e3, Option.bind_some]
    rw [show (x3 == 0) = false from beq_eq_false_iff_ne.2 hz]
    exact e
  ·obtain ⟨lv', t', d', c', h', e, r, s⟩ := no c2 h2 s2
   refine ⟨p, a0, a1, a2, lv', t', d', c', h', ?_, r1, w1, r, s⟩
   rw [bnd e1]
   simp only [fine_eq, l01Prime_eq, Option.bind_some]
   rw [bnd e2]
   simp only [decide_eq_true hp, if_true]
   rw [bnd (l01Is_ev (by omega) (by omega))]
   simp only [decide_eq_false (show ¬ (IsP p ∧ Bal p a0 a1 a2) from fun z => hb z.2), if_neg Bool.false_ne_true]
   exact e
 ·obtain ⟨lv', t', d', c', h', e, r, s⟩ := no c2 h2 s2
  refine ⟨p, a0, a1, a2, lv', t', d', c', h', ?_, r1, w1, r, s⟩
  rw [bnd e1]
  simp only [fine_eq, l01Prime_eq, Option.bind_some]
  rw [bnd e2]
  simp only [decide_eq_false hp, if_neg Bool.false_ne_true]
  exact e
def AtB (p x m : Int) : S27 := ⟨m, ofMt p m x, (ofMd p m x : Int)⟩
def Path (p : Int) : List S27 → Prop
 | [] => True
 | [c] => Bal p c.f0 c.f1 c.f2
 | c :: c' :: r => Bal p c.f0 c.f1 c.f2 ∧ DistR p c.f0 c.f1 c.f2 c'.f0 c'.f1 c'.f2 = (1, 0) ∧ Path p (c' :: r)
theorem path_cons {p : Int} {c c' : S27} {r : List S27} (h1 : Bal p c.f0 c.f1 c.f2) (h2 : DistR p c.f0 c.f1 c.f2 c'.f0 c'.f1 c'.f2 = (1, 0)) (h3 : Path p (c' :: r)) : Path p (c :: c' :: r) := by
 rw [Path]; exact ⟨h1, h2, h3⟩
theorem at_bal {p x m : Int} (h : IsP p) (h0 : -6 ≤ m) (h1 : m ≤ 6) : Bal p (AtB p x m).f0 (AtB p x m).f1 (AtB p x m).f2 := ofM_bal h h0 h1 x
theorem dist_comm {p l t d l' t' d' : Int} (h : IsP p) : DistR p l t d l' t' d' = DistR p l' t' d' l t d := by
 unfold DistR distL
 rw [joinL_comm h]
 by_cases hb : IsP p ∧ Bal p l t d ∧ Bal p l' t' d'
 ·rw [if_pos hb, if_pos ⟨hb.1, hb.2.2, hb.2.1⟩]; congr 1; omega
 ·rw [if_neg hb, if_neg (fun z => hb ⟨z.1, z.2.2, z.2.1⟩)]
theorem at_dn {p x m : Int} (h : IsP p) (h0 : -6 ≤ m - 1) (h1 : m ≤ 6) : DistR p (AtB p x m).f0 (AtB p x m).f1 (AtB p x m).f2 (AtB p x (m - 1)).f0 (AtB p x (m - 1)).f1 (AtB p x (m - 1)).f2 = (1, 0) := by
 have b1 := at_bal (x := x) h (show -6 ≤ m by omega) h1
 have b0 := at_bal (x := x) h h0 (show m - 1 ≤ 6 by omega)
 have hh : HoldsP p (m - 1) (AtB p x (m - 1)).f1 (AtB p x (m - 1)).f2 m (AtB p x m).f1 (AtB p x m).f2 := by
  refine ⟨by omega, ?_⟩
  show p ^ (m - 1 + 6).toNat ∣ mk p (ofMt p m x) (ofMd p m x) - mk p (ofMt p (m - 1) x) (ofMd p (m - 1) x)
  rw [ofM_mark h, ofM_mark h]
  have e1 := dvd_emod_sub x (p ^ (m - 1 + 6).toNat)
  have e2 := Int.dvd_trans (pow_dvd (p := p) (show (m - 1 + 6).toNat ≤ (m + 6).toNat by omega)) (dvd_emod_sub x (p ^ (m + 6).toNat))
  have := Int.dvd_sub e2 e1
  rwa [show x % p ^ (m + 6).toNat - x - (x % p ^ (m - 1 + 6).toNat - x) = x % p ^ (m + 6).toNat - x % p ^ (m - 1 + 6).toNat by omega] at this
 have hj := (contains_iff h h0 (show m - 1 ≤ 6 by omega)).2 hh
 unfold DistR distL
 rw [if_pos ⟨h, b1, b0⟩]
 show (m + (m - 1) - 2 * joinL p m (AtB p x m).f1 (AtB p x m).f2 (m - 1) (AtB p x (m - 1)).f1 (AtB p x (m - 1)).f2, (0 : Int)) = (1, 0)
 rw [joinL_comm h, hj]
 congr 1; omega
theorem path_up {p x : Int} (h : IsP p) : ∀ (n : Nat) (lo : Int), -6 ≤ lo → lo + n ≤ 6 → Path p (AtB p x lo :: upB p x (lo + 1) n) := by
 intro n
 induction n with
 | zero => intro lo h0 h1; exact at_bal h h0 (by omega)
 | succ n ih =>
  intro lo h0 h1
  refine path_cons (at_bal h h0 (by omega)) ?_ (ih (lo + 1) (by omega) (by omega))
  rw [dist_comm h]
  have := at_dn (x := x) h (show -6 ≤ lo + 1 - 1 by omega) (show lo + 1 ≤ 6 by omega)
  rwa [show lo + 1 - 1 = lo by omega] at this
theorem path_dn {p x : Int} (h : IsP p) {r : List S27} : ∀ (n : Nat) (m : Int), -6 ≤ m → m + n ≤ 6 → Path p (AtB p x m :: r) → Path p (dnB p x (m + n) n ++ AtB p x m :: r) := by
 intro n
 induction n with
 | zero => intro m h0 h1 hp; exact hp
 | succ n ih =>
  intro m h0 h1 hp
  have e := ih m h0 (by omega) hp
  have hs : dnB p x (m + ((n + 1 : Nat) : Int)) (n + 1) = AtB p x (m + n + 1) :: dnB p x (m + n) n := by
   rw [show m + ((n + 1 : Nat) : Int) = m + n + 1 by omega]
   show AtB p x (m + n + 1) :: dnB p x (m + n + 1 - 1) n = _
   rw [show m + n + 1 - 1 = m + (n : Int) by omega]
  rw [hs, List.cons_append]
  have st := at_dn (x := x) h (show -6 ≤ m + n + 1 - 1 by omega) (show m + n + 1 ≤ 6 by omega)
  rw [show m + n + 1 - 1 = m + (n : Int) by omega] at st
  have b := at_bal (x := x) h (show -6 ≤ m + (n : Int) + 1 by omega) (by omega)
  cases n with
  | zero =>
   rw [show m + ((0 : Nat) : Int) = m by omega] at st b e ⊢
   exact path_cons b st e
  | succ n =>
   have hs' : dnB p x (m + ((n + 1 : Nat) : Int)) (n + 1) = AtB p x (m + ((n + 1 : Nat) : Int)) :: dnB p x (m + ((n + 1 : Nat) : Int) - 1) n := rfl
   rw [hs', List.cons_append] at e ⊢
   exact path_cons b st e
theorem dn_snoc {p x : Int} : ∀ (n : Nat) (hi : Int), dnB p x hi (n + 1) = dnB p x hi n ++ [AtB p x (hi - n)] := by
 intro n
 induction n with
 | zero => intro hi; show [AtB p x hi] = [AtB p x (hi - ((0 : Nat) : Int))]; rw [show hi - ((0 : Nat) : Int) = hi by omega]
 | succ n ih =>
  intro hi
  rw [show dnB p x hi (n + 1 + 1) = AtB p x hi :: dnB p x (hi - 1) (n + 1) from rfl, ih (hi - 1), show dnB p x hi (n + 1) = AtB p x hi :: dnB p x (hi - 1) n from rfl, List.cons_append, show hi - 1 - (n : Int) = hi - ((n + 1 : Nat) : Int) by omega]
theorem up_snoc {p x : Int} : ∀ (n : Nat) (lo : Int), upB p x lo (n + 1) = upB p x lo n ++ [AtB p x (lo + n)] := by
 intro n
 induction n with
 | zero => intro lo; show [AtB p x lo] = [AtB p x (lo + ((0 : Nat) : Int))]; rw [show lo + ((0 : Nat) : Int) = lo by omega]
 | succ n ih =>
  intro lo
  rw [show upB p x lo (n + 1 + 1) = AtB p x lo :: upB p x (lo + 1) (n + 1) from rfl, ih (lo + 1), show upB p x lo (n + 1) = AtB p x lo :: upB p x (lo + 1) n from rfl, List.cons_append, show lo + 1 + (n : Int) = lo + ((n + 1 : Nat) : Int) by omega]
theorem at_own {p l t d : Int} (h : IsP p) (hb : Bal p l t d) : AtB p (mk p t d) l = ⟨l, t, d⟩ := by
 unfold AtB
 have := Bal.back h hb
 rw [this.1, this.2]
theorem at_join {p l t d l' t' d' : Int} (h : IsP p) (hb : Bal p l t d) (hb' : Bal p l' t' d') : AtB p (mk p t d) (joinL p l t d l' t' d') = AtB p (mk p t' d') (joinL p l t d l' t' d') := by
 have hj := join_least hb hb'
 have hr := joinL_range hb hb'
 have hd := ((le_joinL (la := l) (ta := t) (da := d) (lb := l') (tb := t') (db := d') h hj.1 hr.2).1 (Int.le_refl _)).2.2
 have := ofM_congr (l := joinL p l t d l' t' d') (emod_eq_of_dvd hd)
 unfold AtB
 rw [this.1, this.2]
theorem geo_parts {p l t d l' t' d' : Int} (h : IsP p) (hb : Bal p l t d) (hb' : Bal p l' t' d') :
  Path p (GeoL p l t d l' t' d') ∧ ((GeoL p l t d l' t' d').length : Int) = distL p l t d l' t' d' + 1 ∧ (∃ r, GeoL p l t d l' t' d' = ⟨l, t, d⟩ :: r) ∧ ∃ r, GeoL p l t d l' t' d' = r ++ [⟨l', t', d'⟩] := by
 have hj := join_least hb hb'
 have hr := joinL_range hb hb'
 have h1 := Bal.sm h hb
 have h2 := Bal.sm h hb'
 have hjoin := at_join h hb hb'
 have o1 := at_own h hb
 have o2 := at_own h hb'
 unfold GeoL distL
 generalize joinL p l t d l' t' d' = j at *
 obtain ⟨n, hn⟩ : ∃ n : Nat, l = j + n := ⟨(l - j).toNat, by omega⟩
 obtain ⟨m, hm⟩ : ∃ m : Nat, l' = j + m := ⟨(l' - j).toNat, by omega⟩
 rw [show (l + 1 - j).toNat = n + 1 by omega, show (l' - j).toNat = m by omega]
 have eg : dnB p (mk p t d) l (n + 1) ++ upB p (mk p t' d') (j + 1) m = dnB p (mk p t d) l n ++ AtB p (mk p t d) j :: upB p (mk p t' d') (j + 1) m := by
  rw [dn_snoc, List.append_assoc, show l - (n : Int) = j by omega]; rfl
 refine ⟨?_, ?_, ?_, ?_⟩
 ·rw [eg, hn]
  refine path_dn h n j (by omega) (by omega) ?_
  rw [hjoin]
  exact path_up h m j (by omega) (by omega)
 ·rw [List.length_append, dnB_length, upB_length]; omega
 ·exact ⟨_, by rw [show dnB p (mk p t d) l (n + 1) = AtB p (mk p t d) l :: dnB p (mk p t d) (l - 1) n from rfl, o1, List.cons_append]⟩
 ·rw [eg, hjoin]
  rw [show AtB p (mk p t' d') j :: upB p (mk p t' d') (j + 1) m = upB p (mk p t' d') j (m + 1) from rfl, up_snoc, show j + (m : Int) = l' by omega, o2, ← List.append_assoc]
  exact ⟨_, rfl⟩
theorem join_holds {p l t d l' t' d' : Int} (h : IsP p) (hb : Bal p l t d) (hb' : Bal p l' t' d') :
  Bal p (JoinR p l t d l' t' d').1 (JoinR p l t d l' t' d').2.1 (JoinR p l t d l' t' d').2.2.1 ∧
  HoldsR p (JoinR p l t d l' t' d').1 (JoinR p l t d l' t' d').2.1 (JoinR p l t d l' t' d').2.2.1 l t d = (true, 0) ∧
  HoldsR p (JoinR p l t d l' t' d').1 (JoinR p l t d l' t' d').2.1 (JoinR p l t d l' t' d').2.2.1 l' t' d' = (true, 0) ∧
  ((JoinR p l t d l' t' d').1 = l ∧ (JoinR p l t d l' t' d').2.1 = t ∧ (JoinR p l t d l' t' d').2.2.1 = d ↔ HoldsP p l t d l' t' d') := by
 have hj := join_least hb hb'
 have hr := joinL_range hb hb'
 have hs := Bal.sm h hb
 have hd := ((le_joinL (la := l) (ta := t) (da := d) (lb := l') (tb := t') (db := d') h hj.1 hr.2).1 (Int.le_refl _)).2.2
 have hc := contains_iff (la := l) (ta := t) (da := d) (lb := l') (tb := t') (db := d') h hs.1.1 hs.1.2
 have hk := Bal.back h hb
 unfold JoinR
 rw [if_pos ⟨h, hb, hb'⟩]
 have bj := ofM_bal h hj.1 hr.2 (mk p t d)
 have d1 : p ^ (joinL p l t d l' t' d' + 6).toNat ∣ mk p t d - mk p (ofMt p (joinL p l t d l' t' d') (mk p t d)) (ofMd p (joinL p l t d l' t' d') (mk p t d)) := by
  rw [ofM_mark h]
  have := Int.dvd_neg.2 (dvd_emod_sub (mk p t d) (p ^ (joinL p l t d l' t' d' + 6).toNat))
  rwa [show -(mk p t d % p ^ (joinL p l t d l' t' d' + 6).toNat - mk p t d) = mk p t d - mk p t d % p ^ (joinL p l t d l' t' d' + 6).toNat by omega] at this
 have d2 : p ^ (joinL p l t d l' t' d' + 6).toNat ∣ mk p t' d' - mk p (ofMt p (joinL p l t d l' t' d') (mk p t d)) (ofMd p (joinL p l t d l' t' d') (mk p t d)) := by
  have := Int.dvd_sub d1 hd
  rwa [show mk p t d - mk p (ofMt p (joinL p l t d l' t' d') (mk p t d)) (ofMd p (joinL p l t d l' t' d') (mk p t d)) - (mk p t d - mk p t' d') = mk p t' d' - mk p (ofMt p (joinL p l t d l' t' d') (mk p t d)) (ofMd p (joinL p l t d l' t' d') (mk p t d)) by omega] at this
 refine ⟨bj, ?_, ?_, ?_⟩
 ·unfold HoldsR
  rw [if_pos ⟨h, bj, hb⟩]
  congr 1
  exact decide_eq_true ⟨hj.2.1, d1⟩
 ·unfold HoldsR
  rw [if_pos ⟨h, bj, hb'⟩]
  congr 1
  exact decide_eq_true ⟨hj.2.2, d2⟩
 ·rw [← hc]
  refine ⟨fun z => z.1, fun z => ?_⟩
  show joinL p l t d l' t' d' = l ∧ ofMt p (joinL p l t d l' t' d') (mk p t d) = t ∧ (ofMd p (joinL p l t d l' t' d') (mk p t d) : Int) = d
  rw [z]
  exact ⟨rfl, hk.1, hk.2⟩
theorem geo_l0 {p a0 a1 a2 b0 b1 b2 dist : Int} (hp : IsP p) (xs : List S27) (hl : xs.length ≤ 1000) (hlen : (xs.length : Int) = dist + 1) (hf : ∃ r, xs = ⟨a0, a1, a2⟩ :: r) (hla : ∃ r, xs = r ++ [⟨b0, b1, b2⟩]) :
  ∀ (ys pre : List S27), xs = pre ++ ys → ys ≠ [] → Path p ys → Ev (fun k => laws_FnTreeDistances.l0 k p dist xs pre.length a0 a1 a2 b0 b1 b2) true := by
 intro ys
 induction ys with
 | nil => intro pre _ hn; exact absurd rfl hn
 | cons c ys ih =>
  intro pre hx _ hpath
  have hxl : xs.length = pre.length + (ys.length + 1) := by rw [hx, List.length_append, List.length_cons]
  refine Ev.step (fun k => by rw [laws_FnTreeDistances.l0]) ?_
  rw [wrap_id (x := (pre.length : Int) + 1) (by omega) (by omega)]
  cases ys with
  | nil =>
   rw [List.length_nil] at hxl
   simp only [if_neg (show ¬ (pre.length : Int) + 1 < (xs.length : Int) by omega)]
   rw [wrap_id (x := dist + 1) (by omega) (by omega), wrap_id (x := (xs.length : Int) - 1) (by omega) (by omega)]
   simp only [if_pos hlen, if_pos (show (0 : Int) < (xs.length : Int) by omega), if_pos (show (0 : Int) ≤ (xs.length : Int) - 1 by omega), if_pos (show (xs.length : Int) - 1 < (xs.length : Int) by omega)]
   obtain ⟨r, hr⟩ := hf
   obtain ⟨q, hq⟩ := hla
   have e1 : rd_T27 xs 0 = ⟨a0, a1, a2⟩ := by
    have := rd_ball_at [] (⟨a0, a1, a2⟩ : S27) r
    rw [List.nil_append] at this
    rw [hr]; exact this
   have e2 : rd_T27 xs ((xs.length : Int) - 1) = ⟨b0, b1, b2⟩ := by
    have hql : xs.length = q.length + 1 := by rw [hq, List.length_append, List.length_singleton]
    have := rd_ball_at q (⟨b0, b1, b2⟩ : S27) []
    rw [show (xs.length : Int) - 1 = q.length by omega]
    rw [hq]; exact this
   simp only [e1, e2, beq_self_eq_true, Bool.and_self, if_true]
   exact Ev.now _
  | cons c' ys =>
   rw [List.length_cons] at hxl
   rw [Path] at hpath
   obtain ⟨p1, p2, p3⟩ := hpath
   have hb' : Bal p c'.f0 c'.f1 c'.f2 := by
    cases ys with
    | nil => exact p3
    | cons c'' ys => rw [Path] at p3; exact p3.1
   have r1 := Bal.sm hp p1
   have r2 := Bal.sm hp hb'
   have e1 : rd_T27 xs (pre.length : Int) = c := by rw [hx]; exact rd_ball_at pre c _
   have e2 : rd_T27 xs ((pre.length : Int) + 1) = c' := by
    have := rd_ball_at (pre ++ [c]) c' ys
    rw [List.length_append, List.length_singleton, List.append_assoc] at this
    rw [hx]
    exact this
   simp only [if_pos (show (pre.length : Int) + 1 < (xs.length : Int) by omega), if_pos (show (0 : Int) ≤ (pre.length : Int) by omega), if_pos (show (pre.length : Int) < (xs.length : Int) by omega), if_pos (show (0 : Int) ≤ (pre.length : Int) + 1 by omega), e1, e2]
   rw [bnd (implTreeDistance_ev (by omega) (by omega) (by omega) (by omega))]
   simp only [p2, if_true]
   have := ih (pre ++ [c]) (by rw [hx, List.append_assoc]; rfl) (by simp) p3
   rw [List.length_append, List.length_singleton] at this
   exact this
theorem FnTreeDistances : laws_FnTreeDistances.Pure := by
 intro l0 hl0 hl1 hbytes
 refine Ev.rounds (g := fun k => laws_FnTreeDistances.f k l0) ?_
 unfold laws_FnTreeDistances.f laws_big.f
 simp only [Option.bind_some]
 by_cases hbig : (l0.length : Int) > 4096
 ·simp only [decide_eq_true hbig, if_true]
  exact Ev.now _
 ·simp only [decide_eq_false hbig, if_neg Bool.false_ne_true]
  obtain ⟨h0, e0, s0⟩ := from_ev hbytes (by omega)
  obtain ⟨p, l, t, d, l', t', d', c', h', e1, hp, hw, hw2, _⟩ := two_ev (h := h0) s0
  have hdraw : Ev (fun k => spec_DrawTreeDistance.f k l0) (p, l, t, d, l', t', d') := by
   unfold spec_DrawTreeDistance.f spec_DrawContains.f
   have : Ev (fun k => (spec_l01From.f k l0).bind fun bt447 => ((spec_l02Two.f k bt447.1 bt447.2.1 bt447.2.2).bind fun bt451 => (some (bt451.1, bt451.2.1, bt451.2.2.1, bt451.2.2.2.1, bt451.2.2.2.2.1, bt451.2.2.2.2.2.1, bt451.2.2.2.2.2.2.1)))) (p, l, t, d, l', t', d') := by
    rw [bnd e0, bnd e1]; exact Ev.now _
   rw [bnd this]; exact Ev.now _
  unfold SmB Sm at hw hw2
  rw [bnd hdraw]
  dsimp only
  rw [bnd (implTreeDistance_ev (by omega) (by omega) (by omega) (by omega)), bnd (specTreeDistance_ev (by omega) (by omega) (by omega) (by omega))]
  simp only [if_true, bne_self_eq_false]
  refine Ev.step (fun k => by rw [laws_FnTreeDistances.j0]) ?_
  simp only [if_neg Bool.false_ne_true]
  rw [bnd (implJoinOf_ev (by omega) (by omega) (by omega) (by omega)), bnd (specJoinOf_ev (by omega) (by omega) (by omega) (by omega))]
  simp only [if_true, beq_self_eq_true, Bool.not_true, Bool.or_self]
  refine Ev.step (fun k => by rw [laws_FnTreeDistances.j1]) ?_
  simp only [if_neg Bool.false_ne_true]
  have hgl := GeoR_length p l t d l' t' d'
  rw [bnd (implGeodesicOf_ev (by omega) (by omega) (by omega) (by omega)), bnd (specGeodesicOf_ev (by omega) (by omega) (by omega) (by omega))]
  simp only [if_true]
  rw [bnd (balls9_ev _ (by omega))]
  refine Ev.step (fun k => by rw [laws_FnTreeDistances.j2]) ?_
  simp only [Bool.not_true, if_neg Bool.false_ne_true]
  rw [bnd (implContains_ev (by omega) (by omega) (by omega) (by omega)), bnd (specContains_ev (by omega) (by omega) (by omega) (by omega))]
  simp only [if_true, bne_self_eq_false]
  refine Ev.step (fun k => by rw [laws_FnTreeDistances.j3]) ?_
  simp only [if_neg Bool.false_ne_true]
  by_cases h : IsP p ∧ Bal p l t d ∧ Bal p l' t' d'
  ·obtain ⟨hp1, hb, hb'⟩ := h
   have hd0 : DistR p l t d l' t' d' = (distL p l t d l' t' d', 0) := by unfold DistR; rw [if_pos ⟨hp1, hb, hb'⟩]
   have hg0 : GeoR p l t d l' t' d' = (GeoL p l t d l' t' d', 0) := by unfold GeoR; rw [if_pos ⟨hp1, hb, hb'⟩]
   have hh0 : HoldsR p l t d l' t' d' = (decide (HoldsP p l t d l' t' d'), 0) := by unfold HoldsR; rw [if_pos ⟨hp1, hb, hb'⟩]
   have hj0 : (JoinR p l t d l' t' d').2.2.2 = 0 := by unfold JoinR; rw [if_pos ⟨hp1, hb, hb'⟩]
   obtain ⟨jb, j1, j2, j3⟩ := join_holds hp1 hb hb'
   have jr := Bal.sm hp1 jb
   obtain ⟨g1, g2, g3, g4⟩ := geo_parts hp1 hb hb'
   rw [hg0] at hgl
   dsimp only at hgl
   simp only [hd0, if_true]
   rw [bnd (implTreeDistance_ev (by omega) (by omega) (by omega) (by omega)), dist_comm hp1, hd0]
   simp only [if_true, hh0, bne_self_eq_false]
   refine Ev.step (fun k => by rw [laws_FnTreeDistances.j4]) ?_
   simp only [if_neg Bool.false_ne_true, if_pos hj0]
   rw [bnd (implHoldsBall_ev (by omega) (by omega) (by omega) (by omega)), bnd (implHoldsBall_ev (by omega) (by omega) (by omega) (by omega)), j1, j2]
   simp only [if_true]
   have hsame : (decide (HoldsP p l t d l' t' d') != ((JoinR p l t d l' t' d').1 == l && ((JoinR p l t d l' t' d').2.1 == t && ((JoinR p l t d l' t' d').2.2.1 == d)))) = false := by
    rw [show ((JoinR p l t d l' t' d').1 == l && ((JoinR p l t d l' t' d').2.1 == t && ((JoinR p l t d l' t' d').2.2.1 == d))) = decide (HoldsP p l t d l' t' d') by
     rw [Bool.eq_iff_iff]
     simp only [Bool.and_eq_true, beq_iff_eq, decide_eq_true_eq]
     exact j3]
    exact bne_self_eq_false _
   rw [hsame]
   simp only [if_neg Bool.false_ne_true]
   refine Ev.step (fun k => by rw [laws_FnTreeDistances.j5]) ?_
   simp only [hg0, if_true]
   refine geo_l0 hp1 (GeoL p l t d l' t' d') hgl g2 g3 g4 (GeoL p l t d l' t' d') [] rfl ?_ g1
   obtain ⟨r, hr⟩ := g3
   rw [hr]; simp
  ·have hd0 : DistR p l t d l' t' d' = (0, 1) := by unfold DistR; rw [if_neg h]
   have hg0 : GeoR p l t d l' t' d' = ([], 1) := by unfold GeoR; rw [if_neg h]
   simp only [hd0, hg0, if_neg (show ¬ (1 : Int) = 0 by omega), if_true]
   exact ev_some rfl

end Go.Proofs.Ytpmepopagapeiaa.Pure

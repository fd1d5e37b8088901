/- Balls and ends come back from their texts, ends are told in lowest terms, and all of them are the reference's: for every code. No condition. -/
import Derived.Test.YtgdkmchphpjifaaGreatDoorPFnEndsx20
import Derived.Test.YtgdkmchphpjifaaGreatDoorMathFnEnds
import Derived.Lib.IndexBytes
import Derived.Lib.Bytealg
import Derived.Lib.ItoaLen
import Derived.Lib.ItoaMem
namespace Go.Proofs.YtgdkmchphpjifaaGreatDoor.Pure
open Go.RowKit Go.Proofs.YtgdkmchphpjifaaGreatDoor.PFnEnds Go.Proofs.YtgdkmchphpjifaaGreatDoorW.PrintWords Go.Proofs.YtgdkmchphpjifaaGreatDoorW.PrintLast Go.Proofs.YtgdkmchphpjifaaGreatDoorW.PrintMore Go.Proofs.YtgdkmchphpjifaaGreatDoor.Math
set_option linter.unusedVariables false
set_option linter.unusedSimpArgs false
theorem isPrime_eq (p : Int) : impl_isPrime.f p = some (decide (IsP p)) := by
 unfold impl_isPrime.f IsP
 by_cases h2 : p = 2
 ·subst h2; rfl
 by_cases h3 : p = 3
 ·subst h3; rfl
 by_cases h5 : p = 5
 ·subst h5; rfl
 by_cases h7 : p = 7
 ·subst h7; rfl
 simp [h2, h3, h5, h7]
theorem l01Prime_eq (p : Int) : spec_l01Prime.f p = some (decide (IsP p)) := by
 unfold spec_l01Prime.f IsP
 by_cases h2 : p = 2
 ·subst h2; rfl
 by_cases h3 : p = 3
 ·subst h3; rfl
 by_cases h5 : p = 5
 ·subst h5; rfl
 by_cases h7 : p = 7
 ·subst h7; rfl
 simp [h2, h3, h5, h7]
theorem l01In_eq (n a b : Int) : spec_l01In.f n a b = some (decide (a ≤ n ∧ n ≤ b)) := by
 unfold spec_l01In.f
 by_cases h : n ≥ a
 ·rw [if_pos h]; simp [h]
 ·rw [if_neg h]; simp; omega
theorem isLevel_eq (n : Int) : impl_isLevel.f n = some (decide (-6 ≤ n ∧ n ≤ 6)) := by
 unfold impl_isLevel.f
 by_cases h : n ≥ (-6)
 ·rw [if_pos h]; simp [h]
 ·rw [if_neg h]; simp; omega
theorem power_l {p : Int} (h : IsP p) (n : Nat) (hn : p ^ n ≤ 9223372036854775807) (hn' : n ≤ 1000) : ∀ d i, i + d = n → Ev (fun k => impl_power.l0 k p (p ^ i) n i) (p ^ n) := by
 intro d
 induction d with
 | zero =>
  intro i hi
  obtain rfl : i = n := by omega
  refine Ev.step (fun k => by rw [impl_power.l0]) ?_
  simp only [if_neg (Int.lt_irrefl _)]
  exact Ev.now _
 | succ d ih =>
  intro i hi
  refine Ev.step (fun k => by rw [impl_power.l0]) ?_
  have h1 : (i : Int) < n := by omega
  have h2 := pow_pos' h (i + 1)
  have h3 := pow_mono h (m := i + 1) (n := n) (by omega)
  have e1 : wrap64 (p ^ i * p) = p ^ (i + 1) := by rw [← show p ^ (i + 1) = p ^ i * p from Int.pow_succ p i]; exact wrap_id (by omega) (by omega)
  have e2 : wrap64 ((i : Int) + 1) = ((i + 1 : Nat) : Int) := by rw [wrap_id (by omega) (by omega)]; omega
  simp only [if_pos h1, e1, e2]
  exact ih (i + 1) (by omega)
theorem power_big {p : Int} (h : IsP p) {n : Nat} (hn : p ^ n ≤ 9223372036854775807) (hn' : n ≤ 1000) : Ev (fun k => impl_power.f k p n) (p ^ n) := by
 unfold impl_power.f
 have := power_l h n hn hn' n 0 (by omega)
 rw [Int.pow_zero] at this
 exact this
theorem power_ev {p : Int} (h : IsP p) {n : Int} (hn : n ≤ 22) : Ev (fun k => impl_power.f k p n) (p ^ n.toNat) := by
 by_cases h0 : 0 ≤ n
 ·have := power_big h (n := n.toNat) (by have := pow_le_22 h (n := n.toNat) (by omega); omega) (by omega)
  rw [Int.toNat_of_nonneg h0] at this
  exact this
 ·unfold impl_power.f
  refine Ev.step (fun k => by rw [impl_power.l0]) ?_
  have e : n.toNat = 0 := by omega
  simp only [if_neg (show ¬ (0 : Int) < n by omega), e, Int.pow_zero]
  exact Ev.now _
theorem power_any {p x : Int} (h : IsP p) (hx : x ≠ 0) (h0 : -9223372036854775807 ≤ x) (h1 : x ≤ 9223372036854775807) : Ev (fun k => impl_power.f k p (vl p x)) (p ^ vl p x) :=
 power_big h (by have := pow_vl_le h hx; omega) (by have := vl_le_62 h hx h0 h1; omega)
theorem l01Power_l {p : Int} (h : IsP p) : ∀ (d : Nat) (i : Nat), p ^ (i + d) ≤ 9223372036854775807 → i + d ≤ 1000 → Ev (fun k => spec_l01Power.l0 k p d (p ^ i)) (p ^ (i + d)) := by
 intro d
 induction d with
 | zero =>
  intro i _ _
  refine Ev.step (fun k => by rw [spec_l01Power.l0]) ?_
  simp only [if_neg (show ¬ ((0 : Nat) : Int) > 0 by omega)]
  exact Ev.now _
 | succ d ih =>
  intro i hi hi'
  refine Ev.step (fun k => by rw [spec_l01Power.l0]) ?_
  have h2 := pow_pos' h (i + 1)
  have h3 := pow_mono h (m := i + 1) (n := i + (d + 1)) (by omega)
  have e1 : wrap64 (p ^ i * p) = p ^ (i + 1) := by rw [← show p ^ (i + 1) = p ^ i * p from Int.pow_succ p i]; exact wrap_id (by omega) (by omega)
  have e2 : wrap64 (((d + 1 : Nat) : Int) - 1) = (d : Int) := by rw [wrap_id (by omega) (by omega)]; omega
  simp only [if_pos (show ((d + 1 : Nat) : Int) > 0 by omega), e1, e2]
  have e3 : i + (d + 1) = i + 1 + d := by omega
  rw [e3] at hi ⊢
  exact ih (i + 1) hi (by omega)
theorem l01Power_big {p : Int} (h : IsP p) {n : Nat} (hn : p ^ n ≤ 9223372036854775807) (hn' : n ≤ 1000) : Ev (fun k => spec_l01Power.f k p n) (p ^ n) := by
 unfold spec_l01Power.f
 have := l01Power_l h n 0 (by rw [Nat.zero_add]; exact hn) (by omega)
 rw [Int.pow_zero, Nat.zero_add] at this
 exact this
theorem l01Power_ev {p : Int} (h : IsP p) {n : Int} (hn : n ≤ 22) : Ev (fun k => spec_l01Power.f k p n) (p ^ n.toNat) := by
 by_cases h0 : 0 ≤ n
 ·have := l01Power_big h (n := n.toNat) (by have := pow_le_22 h (n := n.toNat) (by omega); omega) (by omega)
  rw [Int.toNat_of_nonneg h0] at this
  exact this
 ·unfold spec_l01Power.f
  refine Ev.step (fun k => by rw [spec_l01Power.l0]) ?_
  have e : n.toNat = 0 := by omega
  simp only [if_neg (show ¬ n > 0 by omega), e, Int.pow_zero]
  exact Ev.now _
theorem l01Power_any {p x : Int} (h : IsP p) (hx : x ≠ 0) (h0 : -9223372036854775807 ≤ x) (h1 : x ≤ 9223372036854775807) : Ev (fun k => spec_l01Power.f k p (vl p x)) (p ^ vl p x) :=
 l01Power_big h (by have := pow_vl_le h hx; omega) (by have := vl_le_62 h hx h0 h1; omega)
theorem valuation_l {p : Int} (h : IsP p) : ∀ (v : Nat) (u : Int) (n : Int), ¬ p ∣ u → -9223372036854775807 ≤ p ^ v * u → p ^ v * u ≤ 9223372036854775807 → 0 ≤ n → n + v ≤ 1000 → Ev (fun k => impl_valuation.l0 k p (p ^ v * u) n) (n + v) := by
 intro v
 induction v with
 | zero =>
  intro u n hu h0 h1 hn hv
  refine Ev.step (fun k => by rw [impl_valuation.l0]) ?_
  have hne : ¬ Int.tmod (p ^ 0 * u) p = 0 := fun e => by
   rw [tmod_zero_iff, Int.pow_zero, Int.one_mul] at e; exact hu e
  simp only [if_neg h.ne, if_neg hne]
  exact ev_some (by simp)
 | succ v ih =>
  intro u n hu h0 h1 hn hv
  refine Ev.step (fun k => by rw [impl_valuation.l0]) ?_
  have e0 : p ^ (v + 1) * u = p * (p ^ v * u) := by rw [Int.pow_succ, Int.mul_comm (p ^ v) p, Int.mul_assoc]
  have hd : Int.tmod (p ^ (v + 1) * u) p = 0 := by rw [tmod_zero_iff, e0]; exact Int.dvd_mul_right _ _
  have e1 : Int.tdiv (p ^ (v + 1) * u) p = p ^ v * u := by rw [e0]; exact tdiv_mul_left h.ne
  have hb := tdiv_bounds (n := p ^ (v + 1) * u) (m := p)
  rw [e1] at hb
  have e2 : wrap64 (p ^ v * u) = p ^ v * u := wrap_id (by omega) (by omega)
  have e3 : wrap64 (n + 1) = n + 1 := wrap_id (by omega) (by omega)
  simp only [if_neg h.ne, if_pos hd, e1, e2, e3]
  exact ev_eq (ih u (n + 1) hu (by omega) (by omega) (by omega) (by omega)) (by omega)
theorem valuation_ev {p : Int} (h : IsP p) {x : Int} (hx : x ≠ 0) (h0 : -9223372036854775807 ≤ x) (h1 : x ≤ 9223372036854775807) : Ev (fun k => impl_valuation.f k p x) (vl p x) := by
 unfold impl_valuation.f
 simp only [if_neg hx]
 obtain ⟨u, hu, hnd, _⟩ := vl_split h x hx
 have hv := vl_le_62 h hx h0 h1
 have := valuation_l h (vl p x) u 0 hnd (by omega) (by omega) (by omega) (by omega)
 rw [← hu, Int.zero_add] at this
 exact this
theorem valuation_zero (k : Nat) (p : Int) : impl_valuation.f k p 0 = some 1000 := by unfold impl_valuation.f; rw [if_pos rfl]
theorem valuation_zero_ev (p : Int) : Ev (fun k => impl_valuation.f k p 0) 1000 := ⟨0, fun k _ => valuation_zero k p⟩
def vx (p x : Int) : Int := if x = 0 then 1000 else vl p x
theorem valuation_any {p : Int} (h : IsP p) {x : Int} (h0 : -9223372036854775807 ≤ x) (h1 : x ≤ 9223372036854775807) : Ev (fun k => impl_valuation.f k p x) (vx p x) := by
 unfold vx
 by_cases hx : x = 0
 ·subst hx; rw [if_pos rfl]; exact valuation_zero_ev p
 ·rw [if_neg hx]; exact valuation_ev h hx h0 h1
theorem l01Val_l {p : Int} (h : IsP p) : ∀ (v : Nat) (u : Int) (n : Int), ¬ p ∣ u → -9223372036854775807 ≤ p ^ v * u → p ^ v * u ≤ 9223372036854775807 → 0 ≤ n → n + v ≤ 1000 → Ev (fun k => spec_l01Val.l0 k p (p ^ v * u) n) (n + v) := by
 intro v
 induction v with
 | zero =>
  intro u n hu h0 h1 hn hv
  refine Ev.step (fun k => by rw [spec_l01Val.l0]) ?_
  have hne : ¬ Int.tmod (p ^ 0 * u) p = 0 := fun e => by
   rw [tmod_zero_iff, Int.pow_zero, Int.one_mul] at e; exact hu e
  simp only [if_neg h.ne, if_neg hne]
  exact ev_some (by simp)
 | succ v ih =>
  intro u n hu h0 h1 hn hv
  refine Ev.step (fun k => by rw [spec_l01Val.l0]) ?_
  have e0 : p ^ (v + 1) * u = p * (p ^ v * u) := by rw [Int.pow_succ, Int.mul_comm (p ^ v) p, Int.mul_assoc]
  have hd : Int.tmod (p ^ (v + 1) * u) p = 0 := by rw [tmod_zero_iff, e0]; exact Int.dvd_mul_right _ _
  have e1 : Int.tdiv (p ^ (v + 1) * u) p = p ^ v * u := by rw [e0]; exact tdiv_mul_left h.ne
  have hb := tdiv_bounds (n := p ^ (v + 1) * u) (m := p)
  rw [e1] at hb
  have e2 : wrap64 (p ^ v * u) = p ^ v * u := wrap_id (by omega) (by omega)
  have e3 : wrap64 (n + 1) = n + 1 := wrap_id (by omega) (by omega)
  simp only [if_neg h.ne, if_pos hd, e1, e2, e3]
  exact ev_eq (ih u (n + 1) hu (by omega) (by omega) (by omega) (by omega)) (by omega)
theorem l01Val_ev {p : Int} (h : IsP p) {x : Int} (hx : x ≠ 0) (h0 : -9223372036854775807 ≤ x) (h1 : x ≤ 9223372036854775807) : Ev (fun k => spec_l01Val.f k p x) (vl p x) := by
 unfold spec_l01Val.f
 obtain ⟨u, hu, hnd, _⟩ := vl_split h x hx
 have hv := vl_le_62 h hx h0 h1
 have := l01Val_l h (vl p x) u 0 hnd (by omega) (by omega) (by omega) (by omega)
 rw [← hu, Int.zero_add] at this
 exact this
theorem mod_ev {n m : Int} (hm : 0 < m) (hm' : m ≤ 4611686018427387904) : impl_mod.f n m = some (n % m) := by
 unfold impl_mod.f
 have hb := mod_between (n := n) hm
 rw [if_neg (show ¬ m = 0 by omega), wrap_id (by omega) (by omega), mod_eq hm]
theorem IsBall_ev {p l t d : Int} (hl : -9223372036854775808 ≤ l ∧ l ≤ 9223372036854775807) (hd : -9223372036854775808 ≤ d ∧ d ≤ 9223372036854775807) :
  Ev (fun k => impl_IsBall.f k p l t d) (decide (IsP p ∧ Bal p l t d)) := by
 unfold impl_IsBall.f
 simp only [isPrime_eq, isLevel_eq, Option.bind_some]
 have bad : ∀ {c : Prop} [Decidable c], ¬ c → Ev (fun k => impl_IsBall.j0 k p true l t d) (decide c) := by
  intro c _ hc
  refine Ev.step (fun k => by rw [impl_IsBall.j0]) ?_
  simp only [if_true]
  exact ev_some (by simp [hc])
 by_cases hp : IsP p
 ·simp only [hp, decide_true, if_true]
  by_cases h1 : -6 ≤ l ∧ l ≤ 6
  ·simp only [h1, decide_true, if_true, and_self]
   by_cases h2 : d < 0
   ·simp only [if_pos h2]
    exact bad (by unfold Bal; omega)
   ·simp only [if_neg h2]
    by_cases h3 : d > 6
    ·simp only [h3, decide_true]
     exact bad (by unfold Bal; omega)
    ·simp only [h3, decide_false]
     refine Ev.step (fun k => by rw [impl_IsBall.j0]) ?_
     have e : wrap64 (l + d) = l + d := wrap_id (by omega) (by omega)
     simp only [if_neg Bool.false_ne_true, e]
     by_cases h4 : l + d ≤ 0
     ·simp only [if_pos h4]
      by_cases h5 : t = 0
      ·simp only [if_pos h5]
       exact ev_dec (by rw [Bal_low h4]; simp [hp, h5]; omega)
      ·simp only [if_neg h5]
       exact ev_dec (by rw [Bal_low h4]; simp [h5])
     ·simp only [if_neg h4]
      have hpw := pow_pos' hp (l + d).toNat
      by_cases h5 : t ≥ 0
      ·simp only [if_pos h5]
       rw [bnd (power_ev hp (by omega))]
       by_cases h6 : t < p ^ (l + d).toNat
       ·simp only [if_pos h6]
        by_cases h7 : d = 0
        ·simp only [if_pos h7]
         exact ev_dec (by rw [Bal_high h4]; simp [hp, h7] at h6 ⊢; omega)
        ·simp only [if_neg h7, if_neg hp.ne]
         refine ev_dec ?_
         rw [Bal_high h4]
         by_cases h8 : p ∣ t <;> simp [hp, h7, tmod_zero_iff, h8] <;> omega
       ·simp only [if_neg h6]
        exact ev_dec (by rw [Bal_high h4]; simp [hp]; omega)
      ·simp only [if_neg h5]
       exact ev_dec (by rw [Bal_high h4]; simp [hp]; omega)
  ·simp only [h1, decide_false, if_neg Bool.false_ne_true]
   exact bad (by unfold Bal; omega)
 ·simp only [hp, decide_false, if_neg Bool.false_ne_true]
  exact bad (by simp)
theorem l01Is_ev {p l t d : Int} (hl : -9223372036854775808 ≤ l ∧ l ≤ 9223372036854775807) (hd : -9223372036854775808 ≤ d ∧ d ≤ 9223372036854775807) :
  Ev (fun k => spec_l01Is.f k p l t d) (decide (IsP p ∧ Bal p l t d)) := by
 unfold spec_l01Is.f
 simp only [l01Prime_eq, l01In_eq, Option.bind_some]
 have bad : ∀ {c : Prop} [Decidable c], ¬ c → Ev (fun k => spec_l01Is.j0 k p true l t d) (decide c) := by
  intro c _ hc
  refine Ev.step (fun k => by rw [spec_l01Is.j0]) ?_
  simp only [if_true]
  exact ev_some (by simp [hc])
 by_cases hp : IsP p
 ·simp only [hp, decide_true, if_true]
  by_cases h1 : -6 ≤ l ∧ l ≤ 6
  ·simp only [h1, decide_true, if_true, and_self]
   by_cases h2 : 0 ≤ d ∧ d ≤ 6
   ·simp only [h2, decide_true, and_self, Bool.not_true]
    refine Ev.step (fun k => by rw [spec_l01Is.j0]) ?_
    have e : wrap64 (l + d) = l + d := wrap_id (by omega) (by omega)
    simp only [if_neg Bool.false_ne_true, e]
    by_cases h4 : l + d ≤ 0
    ·simp only [if_pos h4]
     by_cases h5 : t = 0
     ·simp only [if_pos h5]
      exact ev_dec (by rw [Bal_low h4]; simp [hp, h5]; omega)
     ·simp only [if_neg h5]
      exact ev_dec (by rw [Bal_low h4]; simp [h5])
    ·simp only [if_neg h4]
     have hpw := pow_pos' hp (l + d).toNat
     have hpw2 := pow_le_22 hp (n := (l + d).toNat) (by omega)
     rw [bnd (l01Power_ev hp (by omega))]
     have e2 : wrap64 (p ^ (l + d).toNat - 1) = p ^ (l + d).toNat - 1 := wrap_id (by omega) (by omega)
     simp only [l01In_eq, Option.bind_some, e2]
     by_cases h6 : 0 ≤ t ∧ t ≤ p ^ (l + d).toNat - 1
     ·simp only [h6, decide_true, if_true, and_self]
      by_cases h7 : d = 0
      ·simp only [if_pos h7]
       exact ev_dec (by rw [Bal_high h4]; simp [hp, h7] at h6 ⊢; omega)
      ·simp only [if_neg h7, if_neg hp.ne]
       refine ev_dec ?_
       rw [Bal_high h4]
       by_cases h8 : p ∣ t <;> simp [hp, h7, tmod_zero_iff, h8] <;> omega
     ·simp only [h6, decide_false, if_neg Bool.false_ne_true]
      exact ev_dec (by rw [Bal_high h4]; simp [hp]; omega)
   ·simp only [h2, decide_false, Bool.not_false]
    exact bad (by unfold Bal; omega)
  ·simp only [h1, decide_false, if_neg Bool.false_ne_true]
   exact bad (by unfold Bal; omega)
 ·simp only [hp, decide_false, if_neg Bool.false_ne_true]
  exact bad (by simp)
def BallOk (p : Int) (b : S35) : Prop := Bal p b.f0 b.f1 b.f2
instance (p : Int) (b : S35) : Decidable (BallOk p b) := by unfold BallOk; infer_instance
def BallWf (b : S35) : Prop := (-9223372036854775808 ≤ b.f0 ∧ b.f0 ≤ 9223372036854775807) ∧ (-9223372036854775808 ≤ b.f2 ∧ b.f2 ≤ 9223372036854775807)
theorem rd_ball_at (pre : List S35) (b : S35) (ys : List S35) : rd_T35 (pre ++ b :: ys) (pre.length : Int) = b := by
 unfold rd_T35
 simp [List.getD_eq_getElem?_getD]
theorem l01Code_l {p : Int} (hp : IsP p) : ∀ (ys pre : List S35), (pre ++ ys).length ≤ 1000 → (∀ b ∈ ys, BallWf b) → Ev (fun k => spec_l01Code.l0 k p (pre ++ ys) pre.length) (if ∀ b ∈ ys, BallOk p b then 0 else 1) := by
 intro ys
 induction ys with
 | nil =>
  intro pre _ _
  refine Ev.step (fun k => by rw [spec_l01Code.l0]) ?_
  simp only [List.append_nil, if_neg (Int.lt_irrefl _)]
  exact ev_some (by simp)
 | cons b ys ih =>
  intro pre hl hw
  refine Ev.step (fun k => by rw [spec_l01Code.l0]) ?_
  have hl' : (pre ++ b :: ys).length = pre.length + (ys.length + 1) := by simp
  have h1 : (pre.length : Int) < ((pre ++ b :: ys).length : Int) := by omega
  simp only [if_pos h1, if_pos (show (0 : Int) ≤ (pre.length : Int) by omega), rd_ball_at]
  have hb := hw b (by simp)
  rw [bnd (l01Is_ev hb.1 hb.2)]
  by_cases hB : Bal p b.f0 b.f1 b.f2
  ·simp only [hp, hB, and_self, decide_true, if_true]
   have e : wrap64 ((pre.length : Int) + 1) = ((pre ++ [b]).length : Int) := by rw [wrap_id (by omega) (by omega)]; simp
   have := ih (pre ++ [b]) (by simpa using hl) (fun c hc => hw c (by simp [hc]))
   rw [e]
   simp only [List.append_assoc, List.singleton_append] at this
   refine ev_eq this ?_
   have : (∀ c ∈ b :: ys, BallOk p c) ↔ (∀ c ∈ ys, BallOk p c) := by simp [BallOk, hB]
   simp only [this]
  ·simp only [hp, hB, and_false, decide_false, if_neg Bool.false_ne_true]
   refine ev_some ?_
   rw [if_neg]
   intro hall
   exact hB (hall b (by simp))
theorem l01Code_ev {p : Int} {ys : List S35} (hl : ys.length ≤ 1000) (hw : ∀ b ∈ ys, BallWf b) : Ev (fun k => spec_l01Code.f k p ys) (if IsP p ∧ ∀ b ∈ ys, BallOk p b then 0 else 1) := by
 unfold spec_l01Code.f
 simp only [l01Prime_eq, Option.bind_some]
 by_cases hp : IsP p
 ·simp only [hp, decide_true, if_true, true_and]
  exact l01Code_l hp ys [] (by simpa using hl) hw
 ·simp only [hp, decide_false, if_neg Bool.false_ne_true, false_and, if_false]
  exact Ev.now _
theorem l01Code1 {p l t d : Int} (hl : -9223372036854775808 ≤ l ∧ l ≤ 9223372036854775807) (hd : -9223372036854775808 ≤ d ∧ d ≤ 9223372036854775807) :
  Ev (fun k => spec_l01Code.f k p [⟨l, t, d⟩]) (if IsP p ∧ Bal p l t d then 0 else 1) := by
 refine ev_eq (l01Code_ev (by simp) (by intro b hb; simp at hb; subst hb; exact ⟨hl, hd⟩)) ?_
 simp [BallOk]
theorem rd_at (pre : List Int) (b : Int) (ys : List Int) : rd (pre ++ b :: ys) (pre.length : Int) = b := by
 unfold rd
 simp [List.getD_eq_getElem?_getD]
theorem within_l {m : Int} (h0 : 0 ≤ m) (h1 : m ≤ 9223372036854775807) : ∀ (ys pre : List Int), (pre ++ ys).length ≤ 1000 → Ev (fun k => impl_within.l0 k m (pre ++ ys) ((pre ++ ys).length : Int) pre.length) (decide (∀ b ∈ ys, -m ≤ b ∧ b ≤ m)) := by
 intro ys
 induction ys with
 | nil =>
  intro pre _
  refine Ev.step (fun k => by rw [impl_within.l0]) ?_
  simp only [List.append_nil, if_neg (Int.lt_irrefl _)]
  exact ev_some (by simp)
 | cons b ys ih =>
  intro pre hl
  refine Ev.step (fun k => by rw [impl_within.l0]) ?_
  have hl' : (pre ++ b :: ys).length = pre.length + (ys.length + 1) := by simp
  have hlt : (pre.length : Int) < ((pre ++ b :: ys).length : Int) := by omega
  have em : wrap64 (-m) = -m := wrap_id (by omega) (by omega)
  simp only [if_pos hlt, if_pos (show (0 : Int) ≤ (pre.length : Int) by omega), rd_at, em]
  by_cases h2 : b < -m
  ·simp only [if_pos h2]
   refine ev_some ?_
   symm
   rw [decide_eq_false_iff_not]
   intro hall
   have := hall b (by simp)
   omega
  ·simp only [if_neg h2]
   by_cases h3 : b > m
   ·simp only [if_pos h3]
    refine ev_some ?_
    symm
    rw [decide_eq_false_iff_not]
    intro hall
    have := hall b (by simp)
    omega
   ·simp only [if_neg h3]
    have e : wrap64 ((pre.length : Int) + 1) = ((pre ++ [b]).length : Int) := by rw [wrap_id (by omega) (by omega)]; simp
    have := ih (pre ++ [b]) (by simpa using hl)
    rw [e]
    simp only [List.append_assoc, List.singleton_append] at this
    refine ev_eq this ?_
    have : (∀ c ∈ b :: ys, -m ≤ c ∧ c ≤ m) ↔ (∀ c ∈ ys, -m ≤ c ∧ c ≤ m) := by simp; omega
    simp only [this]
theorem within2 {m a b : Int} (h0 : 0 ≤ m) (h1 : m ≤ 9223372036854775807) : Ev (fun k => impl_within.f k m [a, b]) (decide ((-m ≤ a ∧ a ≤ m) ∧ -m ≤ b ∧ b ≤ m)) := by
 unfold impl_within.f
 refine ev_eq (within_l h0 h1 _ [] (by simp)) ?_
 simp
theorem gcd_l : ∀ (n : Nat) (a b : Int), b.natAbs ≤ n → a.natAbs ≤ 9223372036854775807 → b.natAbs ≤ 9223372036854775807 → Ev (fun k => impl_gcd.l0 k a b) (Int.gcd a b : Int) := by
 intro n
 induction n with
 | zero =>
  intro a b hb h0 h1
  obtain rfl : b = 0 := by omega
  refine Ev.step (fun k => by rw [impl_gcd.l0]) ?_
  simp only [if_true]
  refine ev_some ?_
  rw [wrap_id (by omega) (by omega), Int.gcd_zero]
  unfold mx; split <;> omega
 | succ n ih =>
  intro a b hb h0 h1
  refine Ev.step (fun k => by rw [impl_gcd.l0]) ?_
  by_cases hz : b = 0
  ·subst hz
   simp only [if_true]
   refine ev_some ?_
   rw [wrap_id (by omega) (by omega), Int.gcd_zero]
   unfold mx; split <;> omega
  ·simp only [if_neg hz]
   have hlt := tmod_natAbs_lt (a := a) hz
   refine ev_eq (ih b (Int.tmod a b) (by omega) (by omega) (by omega)) ?_
   rw [gcd_tmod]
theorem gcd_ev {a b : Int} (h0 : a.natAbs ≤ 9223372036854775807) (h1 : b.natAbs ≤ 9223372036854775807) : Ev (fun k => impl_gcd.f k a b) (Int.gcd a b : Int) := by
 unfold impl_gcd.f
 exact gcd_l b.natAbs a b (Nat.le_refl _) h0 h1
theorem l01Gcd_l : ∀ (n : Nat) (a b : Int), b.natAbs ≤ n → a.natAbs ≤ 9223372036854775807 → b.natAbs ≤ 9223372036854775807 → Ev (fun k => spec_l01Gcd.l0 k a b) (Int.gcd a b : Int) := by
 intro n
 induction n with
 | zero =>
  intro a b hb h0 h1
  obtain rfl : b = 0 := by omega
  refine Ev.step (fun k => by rw [spec_l01Gcd.l0]) ?_
  simp only [if_true]
  refine ev_some ?_
  rw [wrap_id (by omega) (by omega), Int.gcd_zero]
  unfold mx; split <;> omega
 | succ n ih =>
  intro a b hb h0 h1
  refine Ev.step (fun k => by rw [spec_l01Gcd.l0]) ?_
  by_cases hz : b = 0
  ·subst hz
   simp only [if_true]
   refine ev_some ?_
   rw [wrap_id (by omega) (by omega), Int.gcd_zero]
   unfold mx; split <;> omega
  ·simp only [if_neg hz]
   have hlt := tmod_natAbs_lt (a := a) hz
   refine ev_eq (ih b (Int.tmod a b) (by omega) (by omega) (by omega)) ?_
   rw [gcd_tmod]
theorem l01Gcd_ev {a b : Int} (h0 : a.natAbs ≤ 9223372036854775807) (h1 : b.natAbs ≤ 9223372036854775807) : Ev (fun k => spec_l01Gcd.f k a b) (Int.gcd a b : Int) := by
 unfold spec_l01Gcd.f
 exact l01Gcd_l b.natAbs a b (Nat.le_refl _) h0 h1
theorem IsEnd_ev {n d : Int} : Ev (fun k => impl_IsEnd.f k n d) (decide (EndOk n d)) := by
 unfold impl_IsEnd.f EndOk
 by_cases hd : d = 0
 ·simp only [if_pos hd]
  exact ev_dec (by simp)
 ·simp only [if_neg hd]
  rw [bnd (within2 (by omega) (by omega))]
  by_cases h1 : (-1000000 ≤ n ∧ n ≤ 1000000) ∧ -1000000 ≤ d ∧ d ≤ 1000000
  ·simp only [h1, and_self, decide_true, if_true]
   by_cases h2 : d > 0
   ·simp only [if_pos h2]
    rw [bnd (gcd_ev (by omega) (by omega))]
    exact ev_dec (by simp; omega)
   ·simp only [if_neg h2]
    exact ev_dec (by simp; omega)
  ·simp only [h1, decide_false, if_neg Bool.false_ne_true]
   exact ev_dec (by simp; omega)
theorem l01End_ev {n d : Int} : Ev (fun k => spec_l01End.f k n d) (decide (EndOk n d)) := by
 unfold spec_l01End.f EndOk
 by_cases hd : d = 0
 ·simp only [if_pos hd]
  exact ev_dec (by simp)
 ·simp only [if_neg hd, l01In_eq, Option.bind_some]
  by_cases h1 : 1 ≤ d ∧ d ≤ 1000000
  ·simp only [h1, and_self, decide_true, if_true]
   by_cases h2 : -1000000 ≤ n ∧ n ≤ 1000000
   ·simp only [h2, and_self, decide_true, if_true]
    rw [bnd (l01Gcd_ev (by omega) (by omega))]
    exact ev_dec (by simp; omega)
   ·simp only [h2, decide_false, if_neg Bool.false_ne_true]
    exact ev_dec (by simp; omega)
  ·simp only [h1, decide_false, if_neg Bool.false_ne_true]
   exact ev_dec (by simp; omega)
theorem ed_wrap {n d : Int} (hd : d ≠ 0) (h0 : n.natAbs ≤ 9223372036854775807) (h1 : d.natAbs ≤ 9223372036854775807) : wrap64 (edN n d) = edN n d ∧ wrap64 (edD n d) = edD n d ∧ wrap64 (-edN n d) = -edN n d := by
 obtain ⟨a, b, c, e, _⟩ := ed_facts (n := n) hd
 exact ⟨wrap_id (by omega) (by omega), wrap_id (by omega) (by omega), wrap_id (by omega) (by omega)⟩
theorem endAt_ev {n d : Int} (h0 : n.natAbs ≤ 9223372036854775807) (h1 : d.natAbs ≤ 9223372036854775807) : Ev (fun k => impl_endAt.f k n d) (EAt n d) := by
 unfold impl_endAt.f EAt
 by_cases hd : d = 0
 ·simp only [if_pos hd]; exact Ev.now _
 ·simp only [if_neg hd]
  rw [bnd (gcd_ev h0 h1)]
  obtain ⟨w1, w2, _⟩ := ed_wrap (n := n) hd h0 h1
  obtain ⟨g0, _, _, g3, g4, _⟩ := edG_facts (n := n) hd
  by_cases hn : d < 0
  ·have e : wrap64 (-(Int.gcd n d : Int)) = edG n d := by
    have : edG n d = -(Int.gcd n d : Int) := by unfold edG; rw [if_pos hn]
    rw [← this]; exact wrap_id (by omega) (by omega)
   simp only [if_pos hn, e, if_neg g0]
   have w1' : wrap64 (Int.tdiv n (edG n d)) = edN n d := w1
   have w2' : wrap64 (Int.tdiv d (edG n d)) = edD n d := w2
   simp only [w1', w2']
   rw [bnd IsEnd_ev]
   exact Ev.now _
  ·have e : (Int.gcd n d : Int) = edG n d := by unfold edG; rw [if_neg hn]
   simp only [if_neg hn, e, if_neg g0]
   have w1' : wrap64 (Int.tdiv n (edG n d)) = edN n d := w1
   have w2' : wrap64 (Int.tdiv d (edG n d)) = edD n d := w2
   simp only [w1', w2']
   rw [bnd IsEnd_ev]
   exact Ev.now _
theorem mx_abs {x : Int} : mx x (-x) ≤ 1000000 ↔ -1000000 ≤ x ∧ x ≤ 1000000 := by unfold mx; split <;> omega
theorem l01EndOf_ev {n d : Int} (h0 : n.natAbs ≤ 9223372036854775807) (h1 : d.natAbs ≤ 9223372036854775807) : Ev (fun k => spec_l01EndOf.f k n d) (EAt n d) := by
 unfold spec_l01EndOf.f EAt
 by_cases hd : d = 0
 ·simp only [if_pos hd]; exact Ev.now _
 ·simp only [if_neg hd]
  rw [bnd (l01Gcd_ev h0 h1)]
  obtain ⟨w1, w2, w3⟩ := ed_wrap (n := n) hd h0 h1
  obtain ⟨g0, _, _, g3, g4, _⟩ := edG_facts (n := n) hd
  have hok := ed_ok (n := n) hd
  have w1' : wrap64 (Int.tdiv n (edG n d)) = edN n d := w1
  have w2' : wrap64 (Int.tdiv d (edG n d)) = edD n d := w2
  by_cases hn : d < 0
  ·have e : wrap64 (-(Int.gcd n d : Int)) = edG n d := by
    have : edG n d = -(Int.gcd n d : Int) := by unfold edG; rw [if_pos hn]
    rw [← this]; exact wrap_id (by omega) (by omega)
   simp only [if_pos hn, e, if_neg g0, w1', w2', w3]
   by_cases h2 : edD n d ≤ 1000000
   ·simp only [if_pos h2]
    refine ev_some ?_
    have : (mx (edN n d) (-edN n d) ≤ 1000000) ↔ EndOk (edN n d) (edD n d) := by rw [mx_abs, hok]; simp [h2]
    simp only [this]
   ·simp only [if_neg h2]
    refine ev_some ?_
    have : ¬ EndOk (edN n d) (edD n d) := by rw [hok]; simp [h2]
    simp [this]
  ·have e : (Int.gcd n d : Int) = edG n d := by unfold edG; rw [if_neg hn]
   simp only [if_neg hn, e, if_neg g0, w1', w2', w3]
   by_cases h2 : edD n d ≤ 1000000
   ·simp only [if_pos h2]
    refine ev_some ?_
    have : (mx (edN n d) (-edN n d) ≤ 1000000) ↔ EndOk (edN n d) (edD n d) := by rw [mx_abs, hok]; simp [h2]
    simp only [this]
   ·simp only [if_neg h2]
    refine ev_some ?_
    have : ¬ EndOk (edN n d) (edD n d) := by rw [hok]; simp [h2]
    simp [this]
def EndOfR (n d : Int) : Int × Int × Int :=
 if (-100000000000000000 ≤ n ∧ n ≤ 100000000000000000) ∧ -100000000000000000 ≤ d ∧ d ≤ 100000000000000000 then
  (if n = 0 ∧ d = 0 then (0, 0, 5) else (if (EAt n d).2.2 = true then ((EAt n d).1, (EAt n d).2.1, 0) else (0, 0, 3))) else (0, 0, 2)
theorem implEndOf_ev {n d : Int} : Ev (fun k => impl_EndOf.f k n d) (EndOfR n d) := by
 unfold impl_EndOf.f EndOfR
 rw [bnd (within2 (by omega) (by omega))]
 by_cases h1 : (-100000000000000000 ≤ n ∧ n ≤ 100000000000000000) ∧ -100000000000000000 ≤ d ∧ d ≤ 100000000000000000
 ·simp only [h1, and_self, decide_true, if_true]
  have go : ∀ b : Bool, (b = true ↔ n = 0 ∧ d = 0) → Ev (fun k => impl_EndOf.j0 k n d b) (if n = 0 ∧ d = 0 then (0, 0, 5) else (if (EAt n d).2.2 = true then ((EAt n d).1, (EAt n d).2.1, 0) else (0, 0, 3))) := by
   intro b hb
   refine Ev.step (fun k => by rw [impl_EndOf.j0]) ?_
   by_cases hz : n = 0 ∧ d = 0
   ·simp only [hb.2 hz, if_true, if_pos hz]; exact Ev.now _
   ·have : b = false := by cases b with
     | true => exact absurd (hb.1 rfl) hz
     | false => rfl
    simp only [this, if_neg Bool.false_ne_true, if_neg hz]
    rw [bnd (endAt_ev (by omega) (by omega))]
    unfold impl_fittedEnd.f
    by_cases h2 : (EAt n d).2.2 = true
    ·simp only [if_pos h2, Option.bind_some]; exact Ev.now _
    ·simp only [if_neg h2, Option.bind_some]; exact Ev.now _
  by_cases h2 : n = 0
  ·simp only [if_pos h2]
   exact go _ (by simp [h2])
  ·simp only [if_neg h2]
   exact go _ (by simp [h2])
 ·simp only [h1, decide_false, if_neg Bool.false_ne_true, if_false]; exact Ev.now _
theorem specEndOf_ev {n d : Int} : Ev (fun k => spec_EndOf.f k n d) (EndOfR n d) := by
 unfold spec_EndOf.f EndOfR
 simp only [l01In_eq, Option.bind_some]
 have go : ∀ b : Bool, (-100000000000000000 ≤ n ∧ n ≤ 100000000000000000) ∧ -100000000000000000 ≤ d ∧ d ≤ 100000000000000000 → (b = true ↔ n = 0 ∧ d = 0) → Ev (fun k => spec_EndOf.j1 k n d b) (if n = 0 ∧ d = 0 then (0, 0, 5) else (if (EAt n d).2.2 = true then ((EAt n d).1, (EAt n d).2.1, 0) else (0, 0, 3))) := by
  intro b hr hb
  refine Ev.step (fun k => by rw [spec_EndOf.j1]) ?_
  by_cases hz : n = 0 ∧ d = 0
  ·simp only [hb.2 hz, if_true, if_pos hz]; exact Ev.now _
  ·have : b = false := by cases b with
    | true => exact absurd (hb.1 rfl) hz
    | false => rfl
   simp only [this, if_neg Bool.false_ne_true, if_neg hz]
   rw [bnd (l01EndOf_ev (by omega) (by omega))]
   by_cases h2 : (EAt n d).2.2 = true
   ·simp only [if_pos h2]; exact Ev.now _
   ·simp only [if_neg h2]; exact Ev.now _
 by_cases h1 : -100000000000000000 ≤ n ∧ n ≤ 100000000000000000
 ·simp only [h1, and_self, decide_true, if_true, true_and]
  refine Ev.step (fun k => by rw [spec_EndOf.j0]) ?_
  by_cases h2 : -100000000000000000 ≤ d ∧ d ≤ 100000000000000000
  ·simp only [h2, and_self, decide_true, Bool.not_true, if_neg Bool.false_ne_true, if_true]
   by_cases h3 : n = 0
   ·simp only [if_pos h3]
    exact go _ ⟨h1, h2⟩ (by simp [h3])
   ·simp only [if_neg h3]
    exact go _ ⟨h1, h2⟩ (by simp [h3])
  ·simp only [h2, decide_false, Bool.not_false, if_true, if_false]; exact Ev.now _
 ·simp only [h1, decide_false, if_neg Bool.false_ne_true, false_and, if_false]
  refine Ev.step (fun k => by rw [spec_EndOf.j0]) ?_
  simp only [if_true]; exact Ev.now _
theorem l01MulMod_eq {a b m : Int} (h0 : 0 < m) (h1 : m ≤ 100000000000) : spec_l01MulMod.f a b m = some (a * b % m) := by
 unfold spec_l01MulMod.f
 have ha := mod_between (n := a) h0
 have hb := mod_between (n := b) h0
 have ea : wrap64 (Int.tmod a m + m) = Int.tmod a m + m := wrap_id (by omega) (by omega)
 have eb : wrap64 (Int.tmod b m + m) = Int.tmod b m + m := wrap_id (by omega) (by omega)
 have a0 := Int.emod_nonneg a (Int.ne_of_gt h0)
 have a1 := Int.emod_lt_of_pos a h0
 have b0 := Int.emod_nonneg b (Int.ne_of_gt h0)
 have b1 := Int.emod_lt_of_pos b h0
 rw [if_neg (Int.ne_of_gt h0)]
 simp only [ea, eb, mod_eq h0]
 rw [Int.tmod_eq_emod_of_nonneg b0, Int.tdiv_eq_ediv_of_nonneg b0]
 have hq0 : 0 ≤ b % m / 1000000 := by omega
 have hq1 : b % m / 1000000 ≤ 100000 := by omega
 have hr0 : 0 ≤ b % m % 1000000 := by omega
 have hr1 : b % m % 1000000 ≤ 1000000 := by omega
 have eq : wrap64 (b % m / 1000000) = b % m / 1000000 := wrap_id (by omega) (by omega)
 rw [eq]
 have p1 : 0 ≤ a % m * (b % m / 1000000) := Int.mul_nonneg a0 hq0
 have p2 : a % m * (b % m / 1000000) ≤ 100000000000 * 100000 := Int.mul_le_mul (by omega) hq1 hq0 (by omega)
 have p3 : 0 ≤ a % m * (b % m % 1000000) := Int.mul_nonneg a0 hr0
 have p4 : a % m * (b % m % 1000000) ≤ 100000000000 * 1000000 := Int.mul_le_mul (by omega) hr1 hr0 (by omega)
 rw [wrap_id (x := a % m * (b % m / 1000000)) (by omega) (by omega), wrap_id (x := a % m * (b % m % 1000000)) (by omega) (by omega)]
 rw [Int.tmod_eq_emod_of_nonneg p1, Int.tmod_eq_emod_of_nonneg p3]
 have c0 := Int.emod_nonneg (a % m * (b % m / 1000000)) (Int.ne_of_gt h0)
 have c1 := Int.emod_lt_of_pos (a % m * (b % m / 1000000)) h0
 have d0 := Int.emod_nonneg (a % m * (b % m % 1000000)) (Int.ne_of_gt h0)
 have d1 := Int.emod_lt_of_pos (a % m * (b % m % 1000000)) h0
 rw [wrap_id (x := a % m * (b % m / 1000000) % m * 1000000) (by omega) (by omega)]
 have e0 : 0 ≤ a % m * (b % m / 1000000) % m * 1000000 := by omega
 rw [Int.tmod_eq_emod_of_nonneg e0]
 have f0 := Int.emod_nonneg (a % m * (b % m / 1000000) % m * 1000000) (Int.ne_of_gt h0)
 have f1 := Int.emod_lt_of_pos (a % m * (b % m / 1000000) % m * 1000000) h0
 rw [wrap_id (by omega) (by omega), Int.tmod_eq_emod_of_nonneg (by omega), mulmod_eq]
theorem l01InvMod_l {n m : Int} (hm : 0 < m) (hm' : m ≤ 1000000000000) : ∀ (k : Nat) (a b : Nat) (x y : Int), b ≤ k → Euc n m a b x y → (a : Int) ≤ 1000000000000 → (b : Int) ≤ 1000000000000 →
  ∃ r, Ev (fun k => spec_l01InvMod.l0 k m a b x y) r ∧ 0 ≤ r ∧ r < m ∧ m ∣ r * n - 1 := by
 intro k
 induction k with
 | zero =>
  intro a b x y hb he ha1 hb1
  obtain rfl : b = 0 := by omega
  have hl := he.last
  have hbd := he.bounds
  refine ⟨x % m, ?_, Int.emod_nonneg _ (Int.ne_of_gt hm), Int.emod_lt_of_pos _ hm, ?_⟩
  ·refine Ev.step (fun k => by rw [spec_l01InvMod.l0]) ?_
   have hx := mod_between (n := x) hm
   rw [wrap_id (x := Int.tmod x m + m) (by omega) (by omega), mod_eq hm]
   simp only [Int.natCast_zero, if_true, if_neg (Int.ne_of_gt hm)]
   exact Ev.now _
  ·have h1 := dvd_emod_sub x m
   have h2 : x % m * n - 1 = (x % m - x) * n + (x * n - 1) := by rw [Int.sub_mul]; omega
   rw [h2]
   exact Int.dvd_add (Int.dvd_trans h1 (Int.dvd_mul_right _ _)) hl
 | succ k ih =>
  intro a b x y hb he ha1 hb1
  by_cases hz : b = 0
  ·exact ih a b x y (by omega) he ha1 hb1
  ·have hnx := he.next (by omega)
   obtain ⟨r, hr, h0, h1, h2⟩ := ih b (a % b) y (x - (a / b : Nat) * y) (by have := Nat.mod_lt a (show 0 < b by omega); omega) hnx hb1 (by have := Nat.mod_lt a (show 0 < b by omega); omega)
   refine ⟨r, ?_, h0, h1, h2⟩
   refine Ev.step (fun k => by rw [spec_l01InvMod.l0]) ?_
   suffices hs : wrap64 (Int.tdiv (a : Int) b) = (a / b : Nat) ∧ wrap64 ((a : Int) - wrap64 ((a / b : Nat) * (b : Int))) = (a % b : Nat) ∧ wrap64 (x - wrap64 ((a / b : Nat) * y)) = x - (a / b : Nat) * y by
    simp only [if_neg (show ¬ (b : Int) = 0 by omega), hs.1, hs.2.1, hs.2.2]
    exact hr
   have hbd := he.bounds
   have hbd2 := hnx.bounds
   have hbz : ¬ (b : Int) = 0 := by omega
   have eq : Int.tdiv (a : Int) b = (a / b : Nat) := by rw [Int.tdiv_eq_ediv_of_nonneg (by omega), Int.natCast_ediv]
   have hdm := Nat.div_add_mod a b
   have hle := Nat.div_le_self a b
   have hmod := Nat.mod_le a b
   have hprod : ((a / b : Nat) : Int) * b = a - (a % b : Nat) := by
    have : ((b * (a / b) + a % b : Nat) : Int) = (a : Int) := by rw [hdm]
    rw [Int.natCast_add, Int.natCast_mul, Int.mul_comm (b : Int)] at this
    omega
   rw [eq]
   exact euc_wraps hle hmod hprod (by omega) hm hm' hbd hbd2
theorem l01InvMod_ev {p n : Int} (h : IsP p) {e : Nat} (he : e ≤ 14) (hn : ¬ p ∣ n) :
  ∃ r, Ev (fun k => spec_l01InvMod.f k n (p ^ e)) r ∧ 0 ≤ r ∧ r < p ^ e ∧ p ^ e ∣ r * n - 1 := by
 have h0 := pow_pos' h e
 have h7 := pow_le_seven h (m := e) (n := 14) (by omega)
 have e14 : (7 : Int) ^ 14 = 678223072849 := by decide
 have hb := mod_between (n := n) h0
 have hst := Euc.start (n := n) h0 (coprime_start h hn e)
 have hr0 := Int.emod_nonneg n (Int.ne_of_gt h0)
 have hr1 := Int.emod_lt_of_pos n h0
 obtain ⟨r, hr, a, b, c⟩ := l01InvMod_l h0 (by omega) _ _ _ _ _ (Nat.le_refl _) hst (by omega) (by omega)
 refine ⟨r, ?_, a, b, c⟩
 unfold spec_l01InvMod.f
 simp only [if_neg (Int.ne_of_gt h0)]
 rw [wrap_id (x := Int.tmod n (p ^ e) + p ^ e) (by omega) (by omega), mod_eq h0]
 rw [Int.toNat_of_nonneg hr0, Int.toNat_of_nonneg (by omega)] at hr
 exact hr
theorem l01Of_ev {p num den level x : Int} (h : IsP p) (l0 : -6 ≤ level) (l1 : level ≤ 6) (hden : den ≠ 0)
  (n0 : -4000000000000000000 ≤ num ∧ num ≤ 4000000000000000000) (d0 : -4000000000000000000 ≤ den ∧ den ≤ 4000000000000000000)
  (hx : p ^ ((level + 6).toNat + vl p den) ∣ x * den - num * p ^ 6) (hfit : num = 0 ∨ vl p den ≤ vl p num + 6) :
  Ev (fun k => spec_l01Of.f k p num den level) (level, ofMt p level x, (ofMd p level x : Int), true) := by
 unfold spec_l01Of.f
 simp only [l01In_eq, Option.bind_some, show (-6 ≤ level ∧ level ≤ 6) from ⟨l0, l1⟩, and_self, decide_true, if_true]
 by_cases hz : num = 0
 ·obtain ⟨h1, h2⟩ := of_low h hden hx (.inl hz) l0
  simp only [if_pos hz, h1, h2]
  exact Ev.now _
 ·simp only [if_neg hz]
  have b1 := vl_le_62 h hz (by omega) (by omega)
  have b2 := vl_le_62 h hden (by omega) (by omega)
  rw [bnd (l01Val_ev h hz (by omega) (by omega)), bnd (l01Val_ev h hden (by omega) (by omega))]
  have e1 : wrap64 ((vl p num : Int) - vl p den) = (vl p num : Int) - vl p den := wrap_id (by omega) (by omega)
  have e2 : wrap64 ((vl p den : Int) - vl p num) = (vl p den : Int) - vl p num := wrap_id (by omega) (by omega)
  simp only [e1, e2]
  by_cases hlow : level ≤ (vl p num : Int) - vl p den
  ·obtain ⟨h1, h2⟩ := of_low h hden hx (.inr (by omega)) l0
   simp only [if_pos hlow, h1, h2]
   exact Ev.now _
  ·have hfit' : vl p den ≤ vl p num + 6 := by rcases hfit with h1 | h1; exact absurd h1 hz; exact h1
   have e3 : mx ((vl p den : Int) - vl p num) 0 = ((vl p den - vl p num : Nat) : Int) := by unfold mx; split <;> omega
   have e4 : mx ((vl p num : Int) - vl p den) 0 = ((vl p num - vl p den : Nat) : Int) := by unfold mx; split <;> omega
   have e5 : wrap64 (level + ((vl p den - vl p num : Nat) : Int)) = level + ((vl p den - vl p num : Nat) : Int) := wrap_id (by omega) (by omega)
   simp only [if_neg hlow, e3, e4, e5, if_neg (show ¬ ((vl p den - vl p num : Nat) : Int) > 6 by omega)]
   obtain ⟨un, hun, hund, _⟩ := vl_split h num hz
   obtain ⟨ud, hud, hudd, _⟩ := vl_split h den hden
   rw [bnd (l01Power_ev h (by omega)), bnd (l01Power_any h hz (by omega) (by omega))]
   simp only [if_neg (pow_ne' h _)]
   rw [bnd (l01Power_any h hden (by omega) (by omega))]
   simp only [if_neg (pow_ne' h _)]
   have q1 : Int.tdiv num (p ^ vl p num) = un := by
    conv => lhs; arg 1; rw [hun]
    exact tdiv_mul_left (pow_ne' h _)
   have q2 : Int.tdiv den (p ^ vl p den) = ud := by
    conv => lhs; arg 1; rw [hud]
    exact tdiv_mul_left (pow_ne' h _)
   have c1 := tdiv_bounds (n := num) (m := p ^ vl p num)
   have c2 := tdiv_bounds (n := den) (m := p ^ vl p den)
   rw [q1] at c1
   rw [q2] at c2
   simp only [q1, q2, wrap_id (x := un) (by omega) (by omega), wrap_id (x := ud) (by omega) (by omega)]
   have h12 := pow_le_seven h (m := (level + ((vl p den - vl p num : Nat) : Int)).toNat) (n := 12) (by omega)
   have e12 : (7 : Int) ^ 12 = 13841287201 := by decide
   have hpp := pow_pos' h (level + ((vl p den - vl p num : Nat) : Int)).toNat
   obtain ⟨inv, hinv, _, _, hid⟩ := l01InvMod_ev h (n := ud) (e := (level + ((vl p den - vl p num : Nat) : Int)).toNat) (by omega) hudd
   rw [bnd hinv]
   simp only [l01MulMod_eq hpp (by omega), Option.bind_some]
   rw [bnd (l01Power_ev h (by omega))]
   have hx' : p ^ ((level + 6).toNat + vl p den) ∣ x * (p ^ vl p den * ud) - p ^ vl p num * un * p ^ 6 := by
    rw [← hun, ← hud]; exact hx
   obtain ⟨h1, h2⟩ := of_high h l0 l1 hund hudd hx' (by omega) hfit' hid
   rw [h1, h2]
   simp only [Int.toNat_natCast]
   exact Ev.now _
theorem l01Of_no {p num den level : Int} (h : IsP p) (l0 : -6 ≤ level) (l1 : level ≤ 6) (hden : den ≠ 0) (hnum : num ≠ 0)
  (n0 : -4000000000000000000 ≤ num ∧ num ≤ 4000000000000000000) (d0 : -4000000000000000000 ≤ den ∧ den ≤ 4000000000000000000) (hfit : vl p num + 6 < vl p den) :
  Ev (fun k => spec_l01Of.f k p num den level) (0, 0, 0, false) := by
 unfold spec_l01Of.f
 simp only [l01In_eq, Option.bind_some, show (-6 ≤ level ∧ level ≤ 6) from ⟨l0, l1⟩, and_self, decide_true, if_true, if_neg hnum]
 have b1 := vl_le_62 h hnum (by omega) (by omega)
 have b2 := vl_le_62 h hden (by omega) (by omega)
 rw [bnd (l01Val_ev h hnum (by omega) (by omega)), bnd (l01Val_ev h hden (by omega) (by omega))]
 have e1 : wrap64 ((vl p num : Int) - vl p den) = (vl p num : Int) - vl p den := wrap_id (by omega) (by omega)
 have e2 : wrap64 ((vl p den : Int) - vl p num) = (vl p den : Int) - vl p num := wrap_id (by omega) (by omega)
 have e3 : mx ((vl p den : Int) - vl p num) 0 = ((vl p den - vl p num : Nat) : Int) := by unfold mx; split <;> omega
 simp only [e1, e2, e3, if_neg (show ¬ level ≤ (vl p num : Int) - vl p den by omega), if_pos (show ((vl p den - vl p num : Nat) : Int) > 6 by omega)]
 exact Ev.now _
theorem l01Of_out {p num den level : Int} (hl : ¬ (-6 ≤ level ∧ level ≤ 6)) : Ev (fun k => spec_l01Of.f k p num den level) (0, 0, 0, false) := by
 unfold spec_l01Of.f
 simp only [l01In_eq, Option.bind_some, hl, decide_false, if_neg Bool.false_ne_true]
 exact Ev.now _
theorem l01Of_pow {p t d level : Int} (h : IsP p) (hd : 0 ≤ d ∧ d ≤ 6) (n0 : -4000000000000000000 ≤ t ∧ t ≤ 4000000000000000000) :
  Ev (fun k => spec_l01Of.f k p t (p ^ d.toNat) level) (if -6 ≤ level ∧ level ≤ 6 then (level, ofMt p level (mk p t d), (ofMd p level (mk p t d) : Int), true) else (0, 0, 0, false)) := by
 by_cases hl : -6 ≤ level ∧ level ≤ 6
 ·rw [if_pos hl]
  have h0 := pow_pos' h d.toNat
  have h1 := pow_le_22 h (n := d.toNat) (by omega)
  refine l01Of_ev h hl.1 hl.2 (by omega) n0 (by omega) ?_ (.inr (by rw [vl_pow h]; omega))
  have e : mk p t d * p ^ d.toNat - t * p ^ 6 = 0 := by
   unfold mk
   rw [Int.mul_assoc, ← Int.pow_add]
   have : (6 - d).toNat + d.toNat = 6 := by omega
   rw [this]; omega
  rw [e]; exact Int.dvd_zero _
 ·rw [if_neg hl]
  exact l01Of_out hl
theorem ofMark_ev {p level x : Int} (h : IsP p) (hx : -4000000000000000000 ≤ x ∧ x ≤ 4000000000000000000) :
  Ev (fun k => impl_ofMark.f k p level x) (if -6 ≤ level ∧ level ≤ 6 then (level, ofMt p level x, (ofMd p level x : Int), true) else (0, 0, 0, false)) := by
 unfold impl_ofMark.f
 simp only [isLevel_eq, Option.bind_some]
 by_cases hl : -6 ≤ level ∧ level ≤ 6
 ·have e : wrap64 (level + 6) = level + 6 := wrap_id (by omega) (by omega)
  simp only [hl, and_self, decide_true, if_true, e]
  rw [bnd (power_ev h (by omega))]
  have h0 := pow_pos' h (level + 6).toNat
  have h1 := pow_le_seven h (m := (level + 6).toNat) (n := 12) (by omega)
  have e12 : (7 : Int) ^ 12 = 13841287201 := by decide
  simp only [mod_ev h0 (by omega), Option.bind_some]
  have y0 := Int.emod_nonneg x (Int.ne_of_gt h0)
  have y1 := Int.emod_lt_of_pos x h0
  rw [bnd (valuation_any h (by omega) (by omega))]
  have hvx : vx p (x % p ^ (level + 6).toNat) ≤ 1000 ∧ 0 ≤ vx p (x % p ^ (level + 6).toNat) := by
   unfold vx
   split
   ·omega
   ·rename_i hz
    have := vl_le_62 h hz (by omega) (by omega)
    omega
  have e2 : wrap64 (6 - vx p (x % p ^ (level + 6).toNat)) = 6 - vx p (x % p ^ (level + 6).toNat) := wrap_id (by omega) (by omega)
  have e3 : mx (6 - vx p (x % p ^ (level + 6).toNat)) 0 = (ofMd p level x : Int) := by
   unfold vx ofMd mx
   by_cases hz : x % p ^ (level + 6).toNat = 0
   ·simp only [if_pos hz]; omega
   ·simp only [if_neg hz]; split <;> omega
  have hd6 := ofMd_le p level x
  have e4 : wrap64 (6 - (ofMd p level x : Int)) = 6 - (ofMd p level x : Int) := wrap_id (by omega) (by omega)
  simp only [e2, e3, e4]
  rw [bnd (power_ev h (by omega))]
  have e5 : (6 - (ofMd p level x : Int)).toNat = 6 - ofMd p level x := by omega
  simp only [if_neg (pow_ne' h _), e5]
  have hq := tdiv_bounds (n := x % p ^ (level + 6).toNat) (m := p ^ (6 - ofMd p level x))
  rw [wrap_id (by omega) (by omega)]
  have e6 : Int.tdiv (x % p ^ (level + 6).toNat) (p ^ (6 - ofMd p level x)) = ofMt p level x := by
   unfold ofMt
   exact Int.tdiv_eq_ediv_of_nonneg y0
  rw [e6]
  exact Ev.now _
 ·simp only [hl, decide_false, if_neg Bool.false_ne_true, if_false]
  exact Ev.now _
def fitR (r : Int × Int × Int × Bool) : Int × Int × Int × Int := if r.2.2.2 = true then (r.1, r.2.1, r.2.2.1, 0) else (0, 0, 0, 3)
theorem fitted_eq (r : Int × Int × Int × Bool) : impl_fitted.f r.1 r.2.1 r.2.2.1 r.2.2.2 = some (fitR r) := by
 unfold impl_fitted.f fitR
 split <;> rfl
set_option maxRecDepth 100000 in
theorem len8_dec : ∀ n : Fin 256, 1 ≤ n.val → 1 ≤ (bt (⟨#[0, 1, 2, 2, 3, 3, 3, 3, 4, 4, 4, 4, 4, 4, 4, 4, 5, 5, 5, 5, 5, 5, 5, 5, 5, 5, 5, 5, 5, 5, 5, 5, 6, 6, 6, 6, 6, 6, 6, 6, 6, 6, 6, 6, 6, 6, 6, 6, 6, 6, 6, 6, 6, 6, 6, 6, 6, 6, 6, 6, 6, 6, 6, 6, 7, 7, 7, 7, 7, 7, 7, 7, 7, 7, 7, 7, 7, 7, 7, 7, 7, 7, 7, 7, 7, 7, 7, 7, 7, 7, 7, 7, 7, 7, 7, 7, 7, 7, 7, 7, 7, 7, 7, 7, 7, 7, 7, 7, 7, 7, 7, 7, 7, 7, 7, 7, 7, 7, 7, 7, 7, 7, 7, 7, 7, 7, 7, 7, 8, 8, 8, 8, 8, 8, 8, 8, 8, 8, 8, 8, 8, 8, 8, 8, 8, 8, 8, 8, 8, 8, 8, 8, 8, 8, 8, 8, 8, 8, 8, 8, 8, 8, 8, 8, 8, 8, 8, 8, 8, 8, 8, 8, 8, 8, 8, 8, 8, 8, 8, 8, 8, 8, 8, 8, 8, 8, 8, 8, 8, 8, 8, 8, 8, 8, 8, 8, 8, 8, 8, 8, 8, 8, 8, 8, 8, 8, 8, 8, 8, 8, 8, 8, 8, 8, 8, 8, 8, 8, 8, 8, 8, 8, 8, 8, 8, 8, 8, 8, 8, 8, 8, 8, 8, 8, 8, 8, 8, 8, 8, 8, 8, 8, 8, 8, 8, 8, 8, 8, 8, 8, 8, 8, 8, 8, 8, 8]⟩ : ByteArray) (n.val : Int)).toNat ∧ 0 ≤ bt (⟨#[0, 1, 2, 2, 3, 3, 3, 3, 4, 4, 4, 4, 4, 4, 4, 4, 5, 5, 5, 5, 5, 5, 5, 5, 5, 5, 5, 5, 5, 5, 5, 5, 6, 6, 6, 6, 6, 6, 6, 6, 6, 6, 6, 6, 6, 6, 6, 6, 6, 6, 6, 6, 6, 6, 6, 6, 6, 6, 6, 6, 6, 6, 6, 6, 7, 7, 7, 7, 7, 7, 7, 7, 7, 7, 7, 7, 7, 7, 7, 7, 7, 7, 7, 7, 7, 7, 7, 7, 7, 7, 7, 7, 7, 7, 7, 7, 7, 7, 7, 7, 7, 7, 7, 7, 7, 7, 7, 7, 7, 7, 7, 7, 7, 7, 7, 7, 7, 7, 7, 7, 7, 7, 7, 7, 7, 7, 7, 7, 8, 8, 8, 8, 8, 8, 8, 8, 8, 8, 8, 8, 8, 8, 8, 8, 8, 8, 8, 8, 8, 8, 8, 8, 8, 8, 8, 8, 8, 8, 8, 8, 8, 8, 8, 8, 8, 8, 8, 8, 8, 8, 8, 8, 8, 8, 8, 8, 8, 8, 8, 8, 8, 8, 8, 8, 8, 8, 8, 8, 8, 8, 8, 8, 8, 8, 8, 8, 8, 8, 8, 8, 8, 8, 8, 8, 8, 8, 8, 8, 8, 8, 8, 8, 8, 8, 8, 8, 8, 8, 8, 8, 8, 8, 8, 8, 8, 8, 8, 8, 8, 8, 8, 8, 8, 8, 8, 8, 8, 8, 8, 8, 8, 8, 8, 8, 8, 8, 8, 8, 8, 8, 8, 8, 8, 8, 8, 8]⟩ : ByteArray) (n.val : Int) ∧ (bt (⟨#[0, 1, 2, 2, 3, 3, 3, 3, 4, 4, 4, 4, 4, 4, 4, 4, 5, 5, 5, 5, 5, 5, 5, 5, 5, 5, 5, 5, 5, 5, 5, 5, 6, 6, 6, 6, 6, 6, 6, 6, 6, 6, 6, 6, 6, 6, 6, 6, 6, 6, 6, 6, 6, 6, 6, 6, 6, 6, 6, 6, 6, 6, 6, 6, 7, 7, 7, 7, 7, 7, 7, 7, 7, 7, 7, 7, 7, 7, 7, 7, 7, 7, 7, 7, 7, 7, 7, 7, 7, 7, 7, 7, 7, 7, 7, 7, 7, 7, 7, 7, 7, 7, 7, 7, 7, 7, 7, 7, 7, 7, 7, 7, 7, 7, 7, 7, 7, 7, 7, 7, 7, 7, 7, 7, 7, 7, 7, 7, 8, 8, 8, 8, 8, 8, 8, 8, 8, 8, 8, 8, 8, 8, 8, 8, 8, 8, 8, 8, 8, 8, 8, 8, 8, 8, 8, 8, 8, 8, 8, 8, 8, 8, 8, 8, 8, 8, 8, 8, 8, 8, 8, 8, 8, 8, 8, 8, 8, 8, 8, 8, 8, 8, 8, 8, 8, 8, 8, 8, 8, 8, 8, 8, 8, 8, 8, 8, 8, 8, 8, 8, 8, 8, 8, 8, 8, 8, 8, 8, 8, 8, 8, 8, 8, 8, 8, 8, 8, 8, 8, 8, 8, 8, 8, 8, 8, 8, 8, 8, 8, 8, 8, 8, 8, 8, 8, 8, 8, 8, 8, 8, 8, 8, 8, 8, 8, 8, 8, 8, 8, 8, 8, 8, 8, 8, 8, 8]⟩ : ByteArray) (n.val : Int)).toNat ≤ 8 ∧
  2 ^ ((bt (⟨#[0, 1, 2, 2, 3, 3, 3, 3, 4, 4, 4, 4, 4, 4, 4, 4, 5, 5, 5, 5, 5, 5, 5, 5, 5, 5, 5, 5, 5, 5, 5, 5, 6, 6, 6, 6, 6, 6, 6, 6, 6, 6, 6, 6, 6, 6, 6, 6, 6, 6, 6, 6, 6, 6, 6, 6, 6, 6, 6, 6, 6, 6, 6, 6, 7, 7, 7, 7, 7, 7, 7, 7, 7, 7, 7, 7, 7, 7, 7, 7, 7, 7, 7, 7, 7, 7, 7, 7, 7, 7, 7, 7, 7, 7, 7, 7, 7, 7, 7, 7, 7, 7, 7, 7, 7, 7, 7, 7, 7, 7, 7, 7, 7, 7, 7, 7, 7, 7, 7, 7, 7, 7, 7, 7, 7, 7, 7, 7, 8, 8, 8, 8, 8, 8, 8, 8, 8, 8, 8, 8, 8, 8, 8, 8, 8, 8, 8, 8, 8, 8, 8, 8, 8, 8, 8, 8, 8, 8, 8, 8, 8, 8, 8, 8, 8, 8, 8, 8, 8, 8, 8, 8, 8, 8, 8, 8, 8, 8, 8, 8, 8, 8, 8, 8, 8, 8, 8, 8, 8, 8, 8, 8, 8, 8, 8, 8, 8, 8, 8, 8, 8, 8, 8, 8, 8, 8, 8, 8, 8, 8, 8, 8, 8, 8, 8, 8, 8, 8, 8, 8, 8, 8, 8, 8, 8, 8, 8, 8, 8, 8, 8, 8, 8, 8, 8, 8, 8, 8, 8, 8, 8, 8, 8, 8, 8, 8, 8, 8, 8, 8, 8, 8, 8, 8, 8, 8]⟩ : ByteArray) (n.val : Int)).toNat - 1) ≤ n.val ∧ n.val < 2 ^ (bt (⟨#[0, 1, 2, 2, 3, 3, 3, 3, 4, 4, 4, 4, 4, 4, 4, 4, 5, 5, 5, 5, 5, 5, 5, 5, 5, 5, 5, 5, 5, 5, 5, 5, 6, 6, 6, 6, 6, 6, 6, 6, 6, 6, 6, 6, 6, 6, 6, 6, 6, 6, 6, 6, 6, 6, 6, 6, 6, 6, 6, 6, 6, 6, 6, 6, 7, 7, 7, 7, 7, 7, 7, 7, 7, 7, 7, 7, 7, 7, 7, 7, 7, 7, 7, 7, 7, 7, 7, 7, 7, 7, 7, 7, 7, 7, 7, 7, 7, 7, 7, 7, 7, 7, 7, 7, 7, 7, 7, 7, 7, 7, 7, 7, 7, 7, 7, 7, 7, 7, 7, 7, 7, 7, 7, 7, 7, 7, 7, 7, 8, 8, 8, 8, 8, 8, 8, 8, 8, 8, 8, 8, 8, 8, 8, 8, 8, 8, 8, 8, 8, 8, 8, 8, 8, 8, 8, 8, 8, 8, 8, 8, 8, 8, 8, 8, 8, 8, 8, 8, 8, 8, 8, 8, 8, 8, 8, 8, 8, 8, 8, 8, 8, 8, 8, 8, 8, 8, 8, 8, 8, 8, 8, 8, 8, 8, 8, 8, 8, 8, 8, 8, 8, 8, 8, 8, 8, 8, 8, 8, 8, 8, 8, 8, 8, 8, 8, 8, 8, 8, 8, 8, 8, 8, 8, 8, 8, 8, 8, 8, 8, 8, 8, 8, 8, 8, 8, 8, 8, 8, 8, 8, 8, 8, 8, 8, 8, 8, 8, 8, 8, 8, 8, 8, 8, 8, 8, 8]⟩ : ByteArray) (n.val : Int)).toNat := by decide +kernel
set_option maxRecDepth 100000 in
theorem len8_tab {i : Int} (h0 : 1 ≤ i) (h1 : i < 256) : ∃ l : Nat, bt (⟨#[0, 1, 2, 2, 3, 3, 3, 3, 4, 4, 4, 4, 4, 4, 4, 4, 5, 5, 5, 5, 5, 5, 5, 5, 5, 5, 5, 5, 5, 5, 5, 5, 6, 6, 6, 6, 6, 6, 6, 6, 6, 6, 6, 6, 6, 6, 6, 6, 6, 6, 6, 6, 6, 6, 6, 6, 6, 6, 6, 6, 6, 6, 6, 6, 7, 7, 7, 7, 7, 7, 7, 7, 7, 7, 7, 7, 7, 7, 7, 7, 7, 7, 7, 7, 7, 7, 7, 7, 7, 7, 7, 7, 7, 7, 7, 7, 7, 7, 7, 7, 7, 7, 7, 7, 7, 7, 7, 7, 7, 7, 7, 7, 7, 7, 7, 7, 7, 7, 7, 7, 7, 7, 7, 7, 7, 7, 7, 7, 8, 8, 8, 8, 8, 8, 8, 8, 8, 8, 8, 8, 8, 8, 8, 8, 8, 8, 8, 8, 8, 8, 8, 8, 8, 8, 8, 8, 8, 8, 8, 8, 8, 8, 8, 8, 8, 8, 8, 8, 8, 8, 8, 8, 8, 8, 8, 8, 8, 8, 8, 8, 8, 8, 8, 8, 8, 8, 8, 8, 8, 8, 8, 8, 8, 8, 8, 8, 8, 8, 8, 8, 8, 8, 8, 8, 8, 8, 8, 8, 8, 8, 8, 8, 8, 8, 8, 8, 8, 8, 8, 8, 8, 8, 8, 8, 8, 8, 8, 8, 8, 8, 8, 8, 8, 8, 8, 8, 8, 8, 8, 8, 8, 8, 8, 8, 8, 8, 8, 8, 8, 8, 8, 8, 8, 8, 8, 8]⟩ : ByteArray) i = l ∧ IsLen i l ∧ l ≤ 8 := by
 obtain ⟨n, rfl⟩ := Int.eq_ofNat_of_zero_le (show 0 ≤ i by omega)
 have h := len8_dec ⟨n, by omega⟩ (by simp only; omega)
 simp only at h
 refine ⟨_, (Int.toNat_of_nonneg h.2.1).symm, ⟨h.1, ?_, ?_⟩, h.2.2.1⟩
 ·have := h.2.2.2.1
  exact_mod_cast this
 ·have := h.2.2.2.2
  exact_mod_cast this
set_option maxRecDepth 100000 in
theorem Len64_j {x n : Int} (h0 : 1 ≤ x) (h1 : x < 4294967296) (hn : 0 ≤ n ∧ n ≤ 32) : ∃ l : Nat, Ev (fun k => bits_Len64.j0 k x n) (n + l) ∧ IsLen x l ∧ l ≤ 32 := by
 by_cases h16 : x ≥ 65536
 ·by_cases h8 : x / 65536 ≥ 256
  ·have e : x / 65536 / 256 % 256 = x / 65536 / 256 := by omega
   obtain ⟨l, hl, hi, hb⟩ := len8_tab (i := x / 65536 / 256) (by omega) (by omega)
   refine ⟨24 + l, ?_, ?_, by omega⟩
   ·refine Ev.step (fun k => by rw [bits_Len64.j0]) ?_
    simp only [if_pos h16, if_pos h8, e, if_pos (show 0 ≤ x / 65536 / 256 by omega), if_pos (show x / 65536 / 256 < 256 by omega), hl]
    rw [wrap_id (x := n + 16) (by omega) (by omega), wrap_id (x := n + 16 + 8) (by omega) (by omega), wrap_id (x := (l : Int)) (by omega) (by omega), wrap_id (by omega) (by omega)]
    exact ev_some (by omega)
   ·have e2 : x / 2 ^ 24 = x / 65536 / 256 := by omega
    refine IsLen.up 24 ?_
    rw [e2]; exact hi
  ·have e : x / 65536 % 256 = x / 65536 := by omega
   obtain ⟨l, hl, hi, hb⟩ := len8_tab (i := x / 65536) (by omega) (by omega)
   refine ⟨16 + l, ?_, ?_, by omega⟩
   ·refine Ev.step (fun k => by rw [bits_Len64.j0]) ?_
    simp only [if_pos h16, if_neg h8, e, if_pos (show 0 ≤ x / 65536 by omega), if_pos (show x / 65536 < 256 by omega), hl]
    rw [wrap_id (x := n + 16) (by omega) (by omega), wrap_id (x := (l : Int)) (by omega) (by omega), wrap_id (by omega) (by omega)]
    exact ev_some (by omega)
   ·refine IsLen.up 16 ?_
    exact hi
 ·by_cases h8 : x ≥ 256
  ·have e : x / 256 % 256 = x / 256 := by omega
   obtain ⟨l, hl, hi, hb⟩ := len8_tab (i := x / 256) (by omega) (by omega)
   refine ⟨8 + l, ?_, ?_, by omega⟩
   ·refine Ev.step (fun k => by rw [bits_Len64.j0]) ?_
    simp only [if_neg h16, if_pos h8, e, if_pos (show 0 ≤ x / 256 by omega), if_pos (show x / 256 < 256 by omega), hl]
    rw [wrap_id (x := n + 8) (by omega) (by omega), wrap_id (x := (l : Int)) (by omega) (by omega), wrap_id (by omega) (by omega)]
    exact ev_some (by omega)
   ·refine IsLen.up 8 ?_
    exact hi
  ·have e : x % 256 = x := by omega
   obtain ⟨l, hl, hi, hb⟩ := len8_tab (i := x) (by omega) (by omega)
   refine ⟨l, ?_, hi, by omega⟩
   refine Ev.step (fun k => by rw [bits_Len64.j0]) ?_
   simp only [if_neg h16, if_neg h8, e, if_pos (show 0 ≤ x by omega), if_pos (show x < 256 by omega), hl]
   rw [wrap_id (x := (l : Int)) (by omega) (by omega), wrap_id (by omega) (by omega)]
   exact Ev.now _
theorem Len64_ev {x : Int} (h0 : 1 ≤ x) (h1 : x < 18446744073709551616) : ∃ l : Nat, Ev (fun k => bits_Len64.f k x) l ∧ IsLen x l ∧ l ≤ 64 := by
 unfold bits_Len64.f
 by_cases h32 : x ≥ 4294967296
 ·obtain ⟨l, hl, hi, hb⟩ := Len64_j (x := x / 4294967296) (n := 32) (by omega) (by omega) (by omega)
  refine ⟨32 + l, ?_, IsLen.up 32 hi, by omega⟩
  simp only [if_pos h32]
  exact ev_eq hl (by omega)
 ·obtain ⟨l, hl, hi, hb⟩ := Len64_j (x := x) (n := 0) (by omega) (by omega) (by omega)
  refine ⟨l, ?_, hi, by omega⟩
  simp only [if_neg h32]
  exact ev_eq hl (by omega)
theorem Mul64_eq {a b : Int} (a0 : 0 ≤ a) (a1 : a < 18446744073709551616) (b0 : 0 ≤ b) (b1 : b < 18446744073709551616) : bits_Mul64.f a b = some (a * b / 18446744073709551616, a * b % 18446744073709551616) := by
 unfold bits_Mul64.f
 rw [u64_mask32 a0 a1, u64_mask32 b0 b1]
 have hah : 0 ≤ a / 4294967296 ∧ a / 4294967296 ≤ 4294967295 := by omega
 have hal : 0 ≤ a % 4294967296 ∧ a % 4294967296 ≤ 4294967295 := by omega
 have hbh : 0 ≤ b / 4294967296 ∧ b / 4294967296 ≤ 4294967295 := by omega
 have hbl : 0 ≤ b % 4294967296 ∧ b % 4294967296 ≤ 4294967295 := by omega
 have hab : a * b = (a / 4294967296) * (b / 4294967296) * 18446744073709551616 + ((a / 4294967296) * (b % 4294967296) + (a % 4294967296) * (b / 4294967296)) * 4294967296 + (a % 4294967296) * (b % 4294967296) := by
  have ea : a = 4294967296 * (a / 4294967296) + a % 4294967296 := by omega
  have eb : b = 4294967296 * (b / 4294967296) + b % 4294967296 := by omega
  generalize a / 4294967296 = x1 at *
  generalize a % 4294967296 = x0 at *
  generalize b / 4294967296 = y1 at *
  generalize b % 4294967296 = y0 at *
  rw [ea, eb]
  simp only [Int.add_mul, Int.mul_add]
  have e1 : 4294967296 * x1 * (4294967296 * y1) = x1 * y1 * 18446744073709551616 := by
   rw [show (18446744073709551616 : Int) = 4294967296 * 4294967296 by decide]
   simp only [Int.mul_assoc, Int.mul_comm, Int.mul_left_comm]
  have e2 : 4294967296 * x1 * y0 = x1 * y0 * 4294967296 := by rw [Int.mul_assoc, Int.mul_comm]
  have e3 : x0 * (4294967296 * y1) = x0 * y1 * 4294967296 := by rw [Int.mul_left_comm, Int.mul_comm]
  rw [e1, e2, e3]
  omega
 have bound : ∀ {x y : Int}, 0 ≤ x ∧ x ≤ 4294967295 → 0 ≤ y ∧ y ≤ 4294967295 → 0 ≤ x * y ∧ x * y ≤ 18446744065119617025 := by
  intro x y hx hy
  have a := Int.mul_le_mul hx.2 hy.2 hy.1 (by omega)
  exact ⟨Int.mul_nonneg hx.1 hy.1, by omega⟩
 have p11 := bound hah hbh
 have p10 := bound hah hbl
 have p01 := bound hal hbh
 have p00 := bound hal hbl
 generalize (a / 4294967296) * (b / 4294967296) = q11 at *
 generalize (a / 4294967296) * (b % 4294967296) = q10 at *
 generalize (a % 4294967296) * (b / 4294967296) = q01 at *
 generalize (a % 4294967296) * (b % 4294967296) = q00 at *
 rw [hab]
 have w1 : IntKind.u64.wrap q11 = q11 := wrapu_id (by omega) (by omega)
 have w2 : IntKind.u64.wrap q10 = q10 := wrapu_id (by omega) (by omega)
 have w3 : IntKind.u64.wrap q01 = q01 := wrapu_id (by omega) (by omega)
 have w4 : IntKind.u64.wrap q00 = q00 := wrapu_id (by omega) (by omega)
 rw [w1, w2, w3, w4]
 have w5 : IntKind.u64.wrap (q10 + q00 / 4294967296) = q10 + q00 / 4294967296 := wrapu_id (by omega) (by omega)
 rw [w5, u64_mask32 (by omega) (by omega)]
 have w6 : IntKind.u64.wrap ((q10 + q00 / 4294967296) % 4294967296 + q01) = (q10 + q00 / 4294967296) % 4294967296 + q01 := wrapu_id (by omega) (by omega)
 have w7 : IntKind.u64.wrap (q11 + (q10 + q00 / 4294967296) / 4294967296) = q11 + (q10 + q00 / 4294967296) / 4294967296 := wrapu_id (by omega) (by omega)
 rw [w6, w7, wrapu, wrapu]
 congr 2
 omega
theorem Div64_l0 {Y s y1 y0 u v w : Int} {R : Int × Int} (hy : Y = y1 * 4294967296 + y0) (hy1 : 2147483648 ≤ y1) (hy1' : y1 < 4294967296) (hy0 : 0 ≤ y0) (hy0' : y0 < 4294967296) (huY : u < Y) (hv : 0 ≤ v) (hv' : v < 4294967296)
  (hend : Ev (fun k => bits_Div64.j2 k Y s y1 y0 u v w ((u * 4294967296 + v) / Y)) R) : ∀ (n : Nat) (q r : Int), (4294967296 - r).toNat ≤ n → Guess Y y1 u (u * 4294967296 + v) q r → Ev (fun k => bits_Div64.l0 k Y s y1 y0 u v w q r) R := by
 have hY : 0 < Y := by omega
 intro n
 induction n with
 | zero => intro q r hn hg; obtain ⟨_, _, h3, h4, _⟩ := hg; omega
 | succ n ih =>
  intro q r hn hg
  have hg' := hg
  obtain ⟨g1, g2, g3, g4, g5, g6⟩ := hg'
  have go : ∀ b : Bool, (b = true ↔ 4294967296 ≤ q ∨ 4294967296 * r + v < q * y0) → Ev (fun k => bits_Div64.j1 k Y s y1 y0 u v w q r b) R := by
   intro b hb
   refine Ev.step (fun k => by rw [bits_Div64.j1]) ?_
   by_cases hc : 4294967296 ≤ q ∨ 4294967296 * r + v < q * y0
   ·obtain ⟨d1, d2, d3⟩ := guess_down hy hY huY hv hv' hg hc
    rw [wrapu_id (n := r + y1) (by omega) (by omega), wrapu_id (n := q - 1) (by omega) (by omega)]
    simp only [hb.2 hc, if_true]
    by_cases hr : r + y1 ≥ 4294967296
    ·simp only [if_pos hr]
     have hstop : q - 1 = (u * 4294967296 + v) / Y := by
      have h3 : q - 1 ≤ (u * 4294967296 + v) / Y := by
       rw [Int.le_ediv_iff_mul_le hY, hy, Int.mul_add, ← Int.mul_assoc]
       have h4 : (q - 1) * y0 ≤ 4294967296 * 4294967295 := Int.mul_le_mul (by omega) (by omega) hy0 (by omega)
       omega
      omega
     rw [hstop]; exact hend
    ·simp only [if_neg hr]
     exact ih (q - 1) (r + y1) (by omega) ⟨d2, d1, by omega, by omega, by omega, by omega⟩
   ·have hbf : b = false := by cases b with
     | true => exact absurd (hb.1 rfl) hc
     | false => rfl
    simp only [hbf, if_neg Bool.false_ne_true]
    have := guess_stop hy hY hg (by omega)
    rw [this]; exact hend
  refine Ev.step (fun k => by rw [bits_Div64.l0]) ?_
  by_cases hq : q ≥ 4294967296
  ·simp only [if_pos hq]
   exact go _ (by simp; omega)
  ·simp only [if_neg hq]
   have hqy : 0 ≤ q * y0 ∧ q * y0 ≤ 4294967295 * 4294967295 := ⟨Int.mul_nonneg g5 hy0, Int.mul_le_mul (by omega) (by omega) hy0 (by omega)⟩
   rw [wrapu_id (n := q * y0) (by omega) (by omega), wrapu_id (n := 4294967296 * r) (by omega) (by omega), wrapu_id (n := 4294967296 * r + v) (by omega) (by omega)]
   exact go _ (by simp; omega)
theorem Div64_l1 {Y y1 y0 u v q1 : Int} {s : Nat} (hs : s ≤ 64) (hy : Y = y1 * 4294967296 + y0) (hy1 : 2147483648 ≤ y1) (hy1' : y1 < 4294967296) (hy0 : 0 ≤ y0) (hy0' : y0 < 4294967296) (hu : 0 ≤ u) (huY : u < Y) (hv : 0 ≤ v) (hv' : v < 4294967296)
  (hq1 : 0 ≤ q1) (hq1' : q1 < 4294967296) : ∀ (n : Nat) (q r : Int), (4294967296 - r).toNat ≤ n → Guess Y y1 u (u * 4294967296 + v) q r →
  Ev (fun k => bits_Div64.l1 k Y s y1 y0 v q1 r u q) (q1 * 4294967296 + (u * 4294967296 + v) / Y, (u * 4294967296 + v) % Y / 2 ^ s) := by
 have hY : 0 < Y := by omega
 have hlast : ∀ q : Int, q = (u * 4294967296 + v) / Y → IntKind.u64.wrap (IntKind.u64.wrap (q1 * 4294967296) + q) = q1 * 4294967296 + (u * 4294967296 + v) / Y ∧
   shr .u64 (IntKind.u64.wrap (IntKind.u64.wrap (IntKind.u64.wrap (u * 4294967296) + v) - IntKind.u64.wrap (q * Y))) s = (u * 4294967296 + v) % Y / 2 ^ s := by
  intro q hq
  have hqr := quot_rem (n := u * 4294967296 + v) hY
  have hr0 := Int.emod_nonneg (u * 4294967296 + v) (Int.ne_of_gt hY)
  have hr1 := Int.emod_lt_of_pos (u * 4294967296 + v) hY
  have hq0 : 0 ≤ (u * 4294967296 + v) / Y := Int.ediv_nonneg (by omega) (by omega)
  have hqlt : (u * 4294967296 + v) / Y < 4294967296 := by rw [Int.ediv_lt_iff_lt_mul hY]; omega
  rw [shr_u64 hs]
  constructor
  ·rw [wrapu_id (n := q1 * 4294967296) (by omega) (by omega), wrapu_id (by omega) (by omega), hq]
  ·congr 1
   rw [hq]
   simp only [wrapu]
   generalize (u * 4294967296 + v) / Y * Y = P at *
   generalize (u * 4294967296 + v) % Y = Q at *
   omega
 intro n
 induction n with
 | zero => intro q r hn hg; obtain ⟨_, _, h3, h4, _⟩ := hg; omega
 | succ n ih =>
  intro q r hn hg
  have hg' := hg
  obtain ⟨g1, g2, g3, g4, g5, g6⟩ := hg'
  have hs0 : (0 : Int) ≤ (s : Int) := Int.natCast_nonneg s
  have go : ∀ b : Bool, (b = true ↔ 4294967296 ≤ q ∨ 4294967296 * r + v < q * y0) → Ev (fun k => bits_Div64.j4 k Y s y1 y0 v q1 r u q b) (q1 * 4294967296 + (u * 4294967296 + v) / Y, (u * 4294967296 + v) % Y / 2 ^ s) := by
   intro b hb
   refine Ev.step (fun k => by rw [bits_Div64.j4]) ?_
   by_cases hc : 4294967296 ≤ q ∨ 4294967296 * r + v < q * y0
   ·obtain ⟨d1, d2, d3⟩ := guess_down hy hY huY hv hv' hg hc
    rw [wrapu_id (n := r + y1) (by omega) (by omega), wrapu_id (n := q - 1) (by omega) (by omega)]
    simp only [hb.2 hc, if_true]
    by_cases hr : r + y1 ≥ 4294967296
    ·simp only [if_pos hr, if_pos hs0]
     have hstop : q - 1 = (u * 4294967296 + v) / Y := by
      have h3 : q - 1 ≤ (u * 4294967296 + v) / Y := by
       rw [Int.le_ediv_iff_mul_le hY, hy, Int.mul_add, ← Int.mul_assoc]
       have h4 : (q - 1) * y0 ≤ 4294967296 * 4294967295 := Int.mul_le_mul (by omega) (by omega) hy0 (by omega)
       omega
      omega
     obtain ⟨l1, l2⟩ := hlast (q - 1) hstop
     rw [l1, l2]
     exact Ev.now _
    ·simp only [if_neg hr]
     exact ih (q - 1) (r + y1) (by omega) ⟨d2, d1, by omega, by omega, by omega, by omega⟩
   ·have hbf : b = false := by cases b with
     | true => exact absurd (hb.1 rfl) hc
     | false => rfl
    simp only [hbf, if_neg Bool.false_ne_true, if_pos hs0]
    have hstop := guess_stop hy hY hg (by omega)
    obtain ⟨l1, l2⟩ := hlast q hstop
    rw [l1, l2]
    exact Ev.now _
  refine Ev.step (fun k => by rw [bits_Div64.l1]) ?_
  by_cases hq : q ≥ 4294967296
  ·simp only [if_pos hq]
   exact go _ (by simp; omega)
  ·simp only [if_neg hq]
   have hqy : 0 ≤ q * y0 ∧ q * y0 ≤ 4294967295 * 4294967295 := ⟨Int.mul_nonneg g5 hy0, Int.mul_le_mul (by omega) (by omega) hy0 (by omega)⟩
   rw [wrapu_id (n := q * y0) (by omega) (by omega), wrapu_id (n := 4294967296 * r) (by omega) (by omega), wrapu_id (n := 4294967296 * r + v) (by omega) (by omega)]
   exact go _ (by simp; omega)
theorem Div64_ev {hi lo y : Int} (h0 : 0 ≤ hi) (h1 : hi < y) (hy : y < 18446744073709551616) (l0 : 0 ≤ lo) (l1 : lo < 18446744073709551616) :
  Ev (fun k => bits_Div64.f k hi lo y) ((hi * 18446744073709551616 + lo) / y, (hi * 18446744073709551616 + lo) % y) := by
 unfold bits_Div64.f
 simp only [if_neg (show ¬ y = 0 by omega), if_neg (show ¬ y ≤ hi by omega)]
 by_cases hz : hi = 0
 ·simp only [if_pos hz]
  refine ev_some ?_
  rw [hz, Int.zero_mul, Int.zero_add, Int.tdiv_eq_ediv_of_nonneg l0, Int.tmod_eq_emod_of_nonneg l0, wrapu_id (Int.ediv_nonneg l0 (by omega))]
  have := Int.ediv_le_self y l0
  omega
 ·obtain ⟨L, hL, ⟨i1, i2, i3⟩, hL64⟩ := Len64_ev (x := y) (by omega) hy
  have hlz : Ev (fun k => bits_LeadingZeros64.f k y) ((64 - L : Nat) : Int) := by
   unfold bits_LeadingZeros64.f
   rw [bnd hL]
   exact ev_some (by rw [wrap_id (by omega) (by omega)]; omega)
  simp only [if_neg hz]
  rw [bnd hlz]
  generalize hs : 64 - L = s
  have hs64 : s ≤ 63 := by omega
  have eL : L = 64 - s := by omega
  subst eL
  have w1 : IntKind.u64.wrap ((s : Nat) : Int) = s := wrapu_id (by omega) (by omega)
  have w2 : IntKind.u64.wrap (64 - (s : Int)) = ((64 - s : Nat) : Int) := by rw [wrapu_id (by omega) (by omega)]; omega
  simp only [w1, w2]
  rw [shl_u64 (x := y) (by omega), shl_u64 (x := hi) (by omega), shl_u64 (x := lo) (by omega), shr_u64 (x := lo) (s := 64 - s) (by omega)]
  have hS := two_pow_pos' s
  have hT := two_pow_pos' (64 - s)
  have hST : (2 : Int) ^ (64 - s) * 2 ^ s = 18446744073709551616 := by
   rw [← Int.pow_add]
   have : 64 - s + s = 64 := by omega
   rw [this]; decide
  have hST1 : (2 : Int) ^ (64 - s - 1) * 2 ^ s = 9223372036854775808 := by
   rw [← Int.pow_add]
   have : 64 - s - 1 + s = 63 := by omega
   rw [this]; decide
  have hY1 : y * 2 ^ s < 18446744073709551616 := by rw [← hST]; exact Int.mul_lt_mul_of_pos_right i3 hS
  have hY0 : 9223372036854775808 ≤ y * 2 ^ s := by rw [← hST1]; exact Int.mul_le_mul_of_nonneg_right i2 (Int.le_of_lt hS)
  have hH0 : 0 ≤ hi * 2 ^ s := Int.mul_nonneg h0 (Int.le_of_lt hS)
  have hH1 : hi * 2 ^ s + 2 ^ s ≤ y * 2 ^ s := by
   have := Int.mul_le_mul_of_nonneg_right (show hi + 1 ≤ y by omega) (Int.le_of_lt hS)
   rw [Int.add_mul, Int.one_mul] at this
   exact this
  have eY : y * 2 ^ s % 18446744073709551616 = y * 2 ^ s := Int.emod_eq_of_lt (by omega) hY1
  have eH : hi * 2 ^ s % 18446744073709551616 = hi * 2 ^ s := Int.emod_eq_of_lt hH0 (by omega)
  have hq0 : 0 ≤ lo / 2 ^ (64 - s) := Int.ediv_nonneg l0 (Int.le_of_lt hT)
  have hq1 : lo / 2 ^ (64 - s) < 2 ^ s := by
   rw [Int.ediv_lt_iff_lt_mul hT, Int.mul_comm, hST]; exact l1
  rw [eY, eH, or_u64 (s := s) (by omega) hH0 (Int.dvd_mul_left _ _) (by omega) hq0 hq1 (by omega)]
  rw [u64_mask32 (x := y * 2 ^ s) (by omega) hY1]
  have hlo := Int.emod_nonneg (lo * 2 ^ s) (show (18446744073709551616 : Int) ≠ 0 by decide)
  have hlo1 := Int.emod_lt_of_pos (lo * 2 ^ s) (show (0 : Int) < 18446744073709551616 by decide)
  rw [u64_mask32 (x := lo * 2 ^ s % 18446744073709551616) hlo hlo1]
  have hV : (hi * 18446744073709551616 + lo) * 2 ^ s = (hi * 2 ^ s + lo / 2 ^ (64 - s)) * 18446744073709551616 + lo * 2 ^ s % 18446744073709551616 := by
   have a1 : lo * 2 ^ s / 18446744073709551616 = lo / 2 ^ (64 - s) := by
    rw [← hST]; exact Int.mul_ediv_mul_of_pos_left lo _ hS
   have a2 := Int.mul_ediv_add_emod (lo * 2 ^ s) 18446744073709551616
   rw [a1] at a2
   rw [Int.add_mul, Int.add_mul, Int.mul_right_comm]
   omega
  have hw : lo * 2 ^ s % 18446744073709551616 = lo * 2 ^ s % 18446744073709551616 / 4294967296 * 4294967296 + lo * 2 ^ s % 18446744073709551616 % 4294967296 := by omega
  obtain ⟨t1, t2⟩ := two_digits hS (show 0 < y by omega) hV hw
  have v10 : 0 ≤ lo * 2 ^ s % 18446744073709551616 / 4294967296 ∧ lo * 2 ^ s % 18446744073709551616 / 4294967296 < 4294967296 := by omega
  have v00 : 0 ≤ lo * 2 ^ s % 18446744073709551616 % 4294967296 ∧ lo * 2 ^ s % 18446744073709551616 % 4294967296 < 4294967296 := by omega
  have u0 : 0 ≤ hi * 2 ^ s + lo / 2 ^ (64 - s) ∧ hi * 2 ^ s + lo / 2 ^ (64 - s) < y * 2 ^ s := by omega
  generalize lo * 2 ^ s % 18446744073709551616 / 4294967296 = v1 at *
  generalize lo * 2 ^ s % 18446744073709551616 % 4294967296 = v0 at *
  generalize hi * 2 ^ s + lo / 2 ^ (64 - s) = u at *
  generalize hYY : y * 2 ^ s = Y at *
  have hy1a : 2147483648 ≤ Y / 4294967296 ∧ Y / 4294967296 < 4294967296 := by omega
  have hy0a : 0 ≤ Y % 4294967296 ∧ Y % 4294967296 < 4294967296 := by omega
  have hYs : Y = Y / 4294967296 * 4294967296 + Y % 4294967296 := by omega
  have hY : 0 < Y := by omega
  simp only [if_pos (show (0 : Int) ≤ (s : Int) by omega), if_pos (show (0 : Int) ≤ ((64 - s : Nat) : Int) by omega), if_neg (show ¬ Y / 4294967296 = 0 by omega)]
  rw [Int.tdiv_eq_ediv_of_nonneg u0.1]
  have g1 := guess_first hYs hy1a.1 hy1a.2 hy0a.1 hy0a.2 u0.1 u0.2 v10.1 v10.2
  have hdm : 0 ≤ u / (Y / 4294967296) * (Y / 4294967296) ∧ u / (Y / 4294967296) * (Y / 4294967296) ≤ u := by
   obtain ⟨ga, _, gc, _, ge, _⟩ := g1
   exact ⟨Int.mul_nonneg ge (by omega), by omega⟩
  have gb := g1
  obtain ⟨_, _, gc, gd, ge, gf⟩ := gb
  rw [wrapu_id (n := u / (Y / 4294967296)) (by omega) (by omega), wrapu_id (n := u / (Y / 4294967296) * (Y / 4294967296)) (by omega) (by omega), wrapu_id (n := u - u / (Y / 4294967296) * (Y / 4294967296)) (by omega) (by omega)]
  refine Div64_l0 hYs hy1a.1 hy1a.2 hy0a.1 hy0a.2 u0.2 v10.1 v10.2 ?_ _ _ _ (Nat.le_refl _) g1
  refine Ev.step (fun k => by rw [bits_Div64.j2]) ?_
  simp only [if_neg (show ¬ Y / 4294967296 = 0 by omega)]
  have hqr := quot_rem (n := u * 4294967296 + v1) hY
  have hr0 := Int.emod_nonneg (u * 4294967296 + v1) (Int.ne_of_gt hY)
  have hr1 := Int.emod_lt_of_pos (u * 4294967296 + v1) hY
  have hd0 : 0 ≤ (u * 4294967296 + v1) / Y := Int.ediv_nonneg (by omega) (by omega)
  have hd1 : (u * 4294967296 + v1) / Y < 4294967296 := by rw [Int.ediv_lt_iff_lt_mul hY]; omega
  have e21 : IntKind.u64.wrap (IntKind.u64.wrap (IntKind.u64.wrap (u * 4294967296) + v1) - IntKind.u64.wrap ((u * 4294967296 + v1) / Y * Y)) = (u * 4294967296 + v1) % Y := by
   simp only [wrapu]
   generalize (u * 4294967296 + v1) / Y * Y = P at *
   generalize (u * 4294967296 + v1) % Y = Q at *
   omega
  rw [e21]
  generalize (u * 4294967296 + v1) % Y = u2 at *
  generalize (u * 4294967296 + v1) / Y = q1 at *
  rw [Int.tdiv_eq_ediv_of_nonneg hr0]
  have g2 := guess_first hYs hy1a.1 hy1a.2 hy0a.1 hy0a.2 hr0 hr1 v00.1 v00.2
  have gb2 := g2
  obtain ⟨_, _, gc2, gd2, ge2, gf2⟩ := gb2
  have hdm2 : 0 ≤ u2 / (Y / 4294967296) * (Y / 4294967296) ∧ u2 / (Y / 4294967296) * (Y / 4294967296) ≤ u2 := ⟨Int.mul_nonneg ge2 (by omega), by omega⟩
  rw [wrapu_id (n := u2 / (Y / 4294967296)) (by omega) (by omega), wrapu_id (n := u2 / (Y / 4294967296) * (Y / 4294967296)) (by omega) (by omega), wrapu_id (n := u2 - u2 / (Y / 4294967296) * (Y / 4294967296)) (by omega) (by omega)]
  have hfin := Div64_l1 (s := s) (by omega) hYs hy1a.1 hy1a.2 hy0a.1 hy0a.2 hr0 hr1 v00.1 v00.2 hd0 hd1 _ _ _ (Nat.le_refl _) g2
  rw [t1, t2] at hfin
  exact hfin
theorem times_ev {a b m : Int} (h0 : 0 < m) (h1 : m ≤ 4611686018427387904) : Ev (fun k => impl_times.f k a b m) (a * b % m) := by
 unfold impl_times.f
 have a0 := Int.emod_nonneg a (Int.ne_of_gt h0)
 have a1 := Int.emod_lt_of_pos a h0
 have b0 := Int.emod_nonneg b (Int.ne_of_gt h0)
 have b1 := Int.emod_lt_of_pos b h0
 simp only [mod_ev h0 h1, Option.bind_some]
 rw [wrapu_id (n := a % m) a0 (by omega), wrapu_id (n := b % m) b0 (by omega), wrapu_id (n := m) (by omega) (by omega)]
 simp only [Mul64_eq a0 (show a % m < 18446744073709551616 by omega) b0 (show b % m < 18446744073709551616 by omega), Option.bind_some, if_neg (Int.ne_of_gt h0)]
 have p0 : 0 ≤ a % m * (b % m) := Int.mul_nonneg a0 b0
 have hd0 : 0 ≤ a % m * (b % m) / 18446744073709551616 := Int.ediv_nonneg p0 (by decide)
 rw [Int.tmod_eq_emod_of_nonneg hd0]
 have r0 := Int.emod_nonneg (a % m * (b % m) / 18446744073709551616) (Int.ne_of_gt h0)
 have r1 := Int.emod_lt_of_pos (a % m * (b % m) / 18446744073709551616) h0
 have s0 := Int.emod_nonneg (a % m * (b % m)) (show (18446744073709551616 : Int) ≠ 0 by decide)
 have s1 := Int.emod_lt_of_pos (a % m * (b % m)) (show (0 : Int) < 18446744073709551616 by decide)
 rw [bnd (Div64_ev r0 r1 (by omega) s0 s1)]
 have e : (a % m * (b % m) / 18446744073709551616 % m * 18446744073709551616 + a % m * (b % m) % 18446744073709551616) % m = a * b % m := by
  rw [Int.add_emod, mul_emod_left, ← Int.add_emod]
  have : a % m * (b % m) / 18446744073709551616 * 18446744073709551616 + a % m * (b % m) % 18446744073709551616 = a % m * (b % m) := by
   have := Int.mul_ediv_add_emod (a % m * (b % m)) 18446744073709551616
   omega
  rw [this, ← Int.mul_emod]
 have t0 := Int.emod_nonneg (a * b) (Int.ne_of_gt h0)
 have t1 := Int.emod_lt_of_pos (a * b) h0
 refine ev_some ?_
 simp only
 rw [e, wrap_id (by omega) (by omega)]
theorem inverse_l {n m : Int} (hm : 0 < m) (hm' : m ≤ 1000000000000) : ∀ (k : Nat) (a b : Nat) (x y : Int), b ≤ k → Euc n m a b x y → (a : Int) ≤ 1000000000000 → (b : Int) ≤ 1000000000000 →
  ∃ r, Ev (fun k => impl_inverse.l0 k m a b x y) r ∧ 0 ≤ r ∧ r < m ∧ m ∣ r * n - 1 := by
 intro k
 induction k with
 | zero =>
  intro a b x y hb he ha1 hb1
  obtain rfl : b = 0 := by omega
  have hl := he.last
  have hbd := he.bounds
  refine ⟨x % m, ?_, Int.emod_nonneg _ (Int.ne_of_gt hm), Int.emod_lt_of_pos _ hm, ?_⟩
  ·refine Ev.step (fun k => by rw [impl_inverse.l0]) ?_
   simp only [Int.natCast_zero, if_true, mod_ev hm (show m ≤ 4611686018427387904 by omega), Option.bind_some]
   exact Ev.now _
  ·have h1 := dvd_emod_sub x m
   have h2 : x % m * n - 1 = (x % m - x) * n + (x * n - 1) := by rw [Int.sub_mul]; omega
   rw [h2]
   exact Int.dvd_add (Int.dvd_trans h1 (Int.dvd_mul_right _ _)) hl
 | succ k ih =>
  intro a b x y hb he ha1 hb1
  by_cases hz : b = 0
  ·exact ih a b x y (by omega) he ha1 hb1
  ·have hnx := he.next (by omega)
   obtain ⟨r, hr, h0, h1, h2⟩ := ih b (a % b) y (x - (a / b : Nat) * y) (by have := Nat.mod_lt a (show 0 < b by omega); omega) hnx hb1 (by have := Nat.mod_lt a (show 0 < b by omega); omega)
   refine ⟨r, ?_, h0, h1, h2⟩
   refine Ev.step (fun k => by rw [impl_inverse.l0]) ?_
   suffices hs : wrap64 (Int.tdiv (a : Int) b) = (a / b : Nat) ∧ wrap64 ((a : Int) - wrap64 ((a / b : Nat) * (b : Int))) = (a % b : Nat) ∧ wrap64 (x - wrap64 ((a / b : Nat) * y)) = x - (a / b : Nat) * y by
    simp only [if_neg (show ¬ (b : Int) = 0 by omega), hs.1, hs.2.1, hs.2.2]
    exact hr
   have hbd := he.bounds
   have hbd2 := hnx.bounds
   have eq : Int.tdiv (a : Int) b = (a / b : Nat) := by rw [Int.tdiv_eq_ediv_of_nonneg (by omega), Int.natCast_ediv]
   have hdm := Nat.div_add_mod a b
   have hle := Nat.div_le_self a b
   have hmod := Nat.mod_le a b
   have hprod : ((a / b : Nat) : Int) * b = a - (a % b : Nat) := by
    have : ((b * (a / b) + a % b : Nat) : Int) = (a : Int) := by rw [hdm]
    rw [Int.natCast_add, Int.natCast_mul, Int.mul_comm (b : Int)] at this
    omega
   rw [eq]
   exact euc_wraps hle hmod hprod (by omega) hm hm' hbd hbd2
theorem inverse_ev {p n : Int} (h : IsP p) {e : Nat} (he : e ≤ 14) (hn : ¬ p ∣ n) :
  ∃ r, Ev (fun k => impl_inverse.f k n (p ^ e)) r ∧ 0 ≤ r ∧ r < p ^ e ∧ p ^ e ∣ r * n - 1 := by
 have h0 := pow_pos' h e
 have h7 := pow_le_seven h (m := e) (n := 14) (by omega)
 have e14 : (7 : Int) ^ 14 = 678223072849 := by decide
 have hst := Euc.start (n := n) h0 (coprime_start h hn e)
 have hr0 := Int.emod_nonneg n (Int.ne_of_gt h0)
 have hr1 := Int.emod_lt_of_pos n h0
 obtain ⟨r, hr, a, b, c⟩ := inverse_l h0 (by omega) _ _ _ _ _ (Nat.le_refl _) hst (by omega) (by omega)
 refine ⟨r, ?_, a, b, c⟩
 unfold impl_inverse.f
 simp only [mod_ev h0 (show p ^ e ≤ 4611686018427387904 by omega), Option.bind_some]
 rw [Int.toNat_of_nonneg hr0, Int.toNat_of_nonneg (by omega)] at hr
 exact hr
theorem unit_ev {p x u : Int} (h : IsP p) (hx : x ≠ 0) (hu : x = p ^ vl p x * u) (h0 : -9223372036854775807 ≤ x) (h1 : x ≤ 9223372036854775807) : Ev (fun k => impl_unit.f k p x) u := by
 unfold impl_unit.f
 rw [bnd (valuation_ev h hx h0 h1), bnd (power_any h hx h0 h1)]
 have q1 : Int.tdiv x (p ^ vl p x) = u := by
  conv => lhs; arg 1; rw [hu]
  exact tdiv_mul_left (pow_ne' h _)
 have c1 := tdiv_bounds (n := x) (m := p ^ vl p x)
 rw [q1] at c1
 simp only [if_neg (pow_ne' h _), q1]
 exact ev_some (wrap_id (by omega) (by omega))
theorem ballAt_ev {p num den level x : Int} (h : IsP p) (l0 : -6 ≤ level) (l1 : level ≤ 6) (hden : den ≠ 0)
  (n0 : -4000000000000000000 ≤ num ∧ num ≤ 4000000000000000000) (d0 : -4000000000000000000 ≤ den ∧ den ≤ 4000000000000000000)
  (hx : p ^ ((level + 6).toNat + vl p den) ∣ x * den - num * p ^ 6) (hfit : num = 0 ∨ vl p den ≤ vl p num + 6) :
  Ev (fun k => impl_ballAt.f k p num den level) (level, ofMt p level x, (ofMd p level x : Int), true) := by
 unfold impl_ballAt.f
 simp only [isLevel_eq, Option.bind_some, show (-6 ≤ level ∧ level ≤ 6) from ⟨l0, l1⟩, and_self, decide_true, if_true]
 have b2 := vl_le_62 h hden (by omega) (by omega)
 rw [bnd (valuation_any h (by omega) (by omega)), bnd (valuation_ev h hden (by omega) (by omega))]
 by_cases hz : num = 0
 ·obtain ⟨h1, h2⟩ := of_low h hden hx (.inl hz) l0
  simp only [if_pos hz]
  refine Ev.step (fun k => by rw [impl_ballAt.j0]) ?_
  simp only [if_true, h1, h2]
  exact Ev.now _
 ·have b1 := vl_le_62 h hz (by omega) (by omega)
  have ev : vx p num = vl p num := by unfold vx; rw [if_neg hz]
  have e1 : wrap64 ((vl p num : Int) - vl p den) = (vl p num : Int) - vl p den := wrap_id (by omega) (by omega)
  simp only [if_neg hz, ev, e1]
  by_cases hlow : level ≤ (vl p num : Int) - vl p den
  ·obtain ⟨h1, h2⟩ := of_low h hden hx (.inr (by omega)) l0
   simp only [show decide ((vl p num : Int) - vl p den ≥ level) = true from decide_eq_true hlow]
   refine Ev.step (fun k => by rw [impl_ballAt.j0]) ?_
   simp only [if_true, h1, h2]
   exact Ev.now _
  ·have hfit' : vl p den ≤ vl p num + 6 := by rcases hfit with h1 | h1; exact absurd h1 hz; exact h1
   simp only [show decide ((vl p num : Int) - vl p den ≥ level) = false from decide_eq_false hlow]
   refine Ev.step (fun k => by rw [impl_ballAt.j0]) ?_
   rw [wrap_id (x := level + 6) (by omega) (by omega), wrap_id (x := (vl p num : Int) - vl p den + 6) (by omega) (by omega)]
   simp only [if_neg Bool.false_ne_true, if_neg (show ¬ (vl p num : Int) - vl p den < -6 by omega)]
   obtain ⟨un, hun, hund, _⟩ := vl_split h num hz
   obtain ⟨ud, hud, hudd, _⟩ := vl_split h den hden
   have h12 := pow_le_seven h (m := (level + 6).toNat) (n := 12) (by omega)
   have e12 : (7 : Int) ^ 12 = 13841287201 := by decide
   have hpp := pow_pos' h (level + 6).toNat
   obtain ⟨inv, hinv, _, _, hid⟩ := inverse_ev h (n := ud) (e := (level + 6).toNat) (by omega) hudd
   rw [bnd (power_ev h (by omega)), bnd (unit_ev h hz hun (by omega) (by omega)), bnd (unit_ev h hden hud (by omega) (by omega)), bnd hinv, bnd (times_ev hpp (by omega)),
    bnd (power_ev h (by omega)), bnd (times_ev hpp (by omega))]
   have y0 := Int.emod_nonneg (un * inv % p ^ (level + 6).toNat * p ^ ((vl p num : Int) - vl p den + 6).toNat) (Int.ne_of_gt hpp)
   have y1 := Int.emod_lt_of_pos (un * inv % p ^ (level + 6).toNat * p ^ ((vl p num : Int) - vl p den + 6).toNat) hpp
   rw [bnd (ofMark_ev h (by omega))]
   simp only [show (-6 ≤ level ∧ level ≤ 6) from ⟨l0, l1⟩, and_self, if_true]
   have hnear : p ^ (level + 6).toNat ∣ un * inv % p ^ (level + 6).toNat * p ^ ((vl p num : Int) - vl p den + 6).toNat % p ^ (level + 6).toNat - x := by
    have e2 : ((vl p num : Int) - vl p den + 6).toNat = vl p num + 6 - vl p den := by omega
    rw [e2, mul_emod_left]
    refine dvd_of_shift h hudd (b := vl p den) ?_
    obtain ⟨j, hj⟩ := dvd_emod_sub (un * inv * p ^ (vl p num + 6 - vl p den)) (p ^ (level + 6).toNat)
    obtain ⟨i, hi⟩ := hid
    generalize un * inv * p ^ (vl p num + 6 - vl p den) % p ^ (level + 6).toNat = X at *
    have e3 : (X - x) * (p ^ vl p den * ud) = (X * (p ^ vl p den * ud) - num * p ^ 6) - (x * den - num * p ^ 6) := by rw [← hud, Int.sub_mul]; omega
    rw [e3]
    refine Int.dvd_sub ⟨un * p ^ (vl p num + 6 - vl p den) * i + j * ud, ?_⟩ hx
    have e4 : X = un * inv * p ^ (vl p num + 6 - vl p den) + p ^ (level + 6).toNat * j := by omega
    have e5 : inv * ud = 1 + p ^ (level + 6).toNat * i := by omega
    have e6 : p ^ (vl p num + 6 - vl p den) * p ^ vl p den = p ^ (vl p num + 6) := by rw [← Int.pow_add]; congr 1; omega
    have e7 : num * p ^ 6 = p ^ (vl p num + 6) * un := by
     conv => lhs; arg 1; rw [hun]
     rw [Int.pow_add, Int.mul_assoc, Int.mul_comm un, ← Int.mul_assoc]
    have e8 : un * inv * p ^ (vl p num + 6 - vl p den) * (p ^ vl p den * ud) = p ^ (vl p num + 6) * un * (inv * ud) := by
     rw [← e6]; simp only [Int.mul_assoc, Int.mul_comm, Int.mul_left_comm]
    have e9 : p ^ (vl p num + 6) * un * (p ^ (level + 6).toNat * i) = p ^ ((level + 6).toNat + vl p den) * (un * p ^ (vl p num + 6 - vl p den) * i) := by
     rw [← e6, Int.pow_add p (level + 6).toNat]; simp only [Int.mul_assoc, Int.mul_comm, Int.mul_left_comm]
    have e10 : p ^ (level + 6).toNat * j * (p ^ vl p den * ud) = p ^ ((level + 6).toNat + vl p den) * (j * ud) := by
     rw [Int.pow_add p (level + 6).toNat]; simp only [Int.mul_assoc, Int.mul_comm, Int.mul_left_comm]
    rw [e4, Int.add_mul, e8, e5, Int.mul_add, Int.mul_one, e9, e10, e7, Int.mul_add]
    omega
   have hc := ofM_congr (p := p) (l := level) (emod_eq_of_dvd hnear)
   rw [hc.1, hc.2]
   exact Ev.now _
theorem ballAt_no {p num den level : Int} (h : IsP p) (l0 : -6 ≤ level) (l1 : level ≤ 6) (hden : den ≠ 0) (hnum : num ≠ 0)
  (n0 : -4000000000000000000 ≤ num ∧ num ≤ 4000000000000000000) (d0 : -4000000000000000000 ≤ den ∧ den ≤ 4000000000000000000) (hfit : vl p num + 6 < vl p den) :
  Ev (fun k => impl_ballAt.f k p num den level) (0, 0, 0, false) := by
 unfold impl_ballAt.f
 simp only [isLevel_eq, Option.bind_some, show (-6 ≤ level ∧ level ≤ 6) from ⟨l0, l1⟩, and_self, decide_true, if_true, if_neg hnum]
 have b1 := vl_le_62 h hnum (by omega) (by omega)
 have b2 := vl_le_62 h hden (by omega) (by omega)
 rw [bnd (valuation_ev h hnum (by omega) (by omega)), bnd (valuation_ev h hden (by omega) (by omega))]
 have e1 : wrap64 ((vl p num : Int) - vl p den) = (vl p num : Int) - vl p den := wrap_id (by omega) (by omega)
 simp only [e1, show decide ((vl p num : Int) - vl p den ≥ level) = false from decide_eq_false (by omega)]
 refine Ev.step (fun k => by rw [impl_ballAt.j0]) ?_
 simp only [if_neg Bool.false_ne_true, if_pos (show (vl p num : Int) - vl p den < -6 by omega)]
 exact Ev.now _
theorem ballAt_out {p num den level : Int} (hl : ¬ (-6 ≤ level ∧ level ≤ 6)) : Ev (fun k => impl_ballAt.f k p num den level) (0, 0, 0, false) := by
 unfold impl_ballAt.f
 simp only [isLevel_eq, Option.bind_some, hl, decide_false, if_neg Bool.false_ne_true]
 exact Ev.now _
def AtIs (p num den level : Int) (r : Int × Int × Int × Bool) : Prop :=
 (-6 ≤ level ∧ level ≤ 6 ∧ (num = 0 ∨ vl p den ≤ vl p num + 6) ∧ ∃ x, p ^ ((level + 6).toNat + vl p den) ∣ x * den - num * p ^ 6 ∧ r = (level, ofMt p level x, (ofMd p level x : Int), true)) ∨
 (¬ (-6 ≤ level ∧ level ≤ 6 ∧ (num = 0 ∨ vl p den ≤ vl p num + 6)) ∧ r = (0, 0, 0, false))
theorem at_both {p num den level : Int} (h : IsP p) (hden : den ≠ 0)
  (n0 : -4000000000000000000 ≤ num ∧ num ≤ 4000000000000000000) (d0 : -4000000000000000000 ≤ den ∧ den ≤ 4000000000000000000) :
  ∃ r, Ev (fun k => spec_l01Of.f k p num den level) r ∧ Ev (fun k => impl_ballAt.f k p num den level) r ∧ AtIs p num den level r := by
 by_cases hl : -6 ≤ level ∧ level ≤ 6
 ·by_cases hfit : num = 0 ∨ vl p den ≤ vl p num + 6
  ·obtain ⟨x, hx⟩ := near_exists h hden hfit (level + 6).toNat
   exact ⟨_, l01Of_ev h hl.1 hl.2 hden n0 d0 hx hfit, ballAt_ev h hl.1 hl.2 hden n0 d0 hx hfit, .inl ⟨hl.1, hl.2, hfit, x, hx, rfl⟩⟩
  ·have hnum : num ≠ 0 := fun e => hfit (.inl e)
   exact ⟨_, l01Of_no h hl.1 hl.2 hden hnum n0 d0 (by omega), ballAt_no h hl.1 hl.2 hden hnum n0 d0 (by omega), .inr ⟨fun hc => hfit hc.2.2, rfl⟩⟩
 ·exact ⟨_, l01Of_out hl, ballAt_out hl, .inr ⟨fun hc => hl ⟨hc.1, hc.2.1⟩, rfl⟩⟩
def BallOfEndIs (p num den level : Int) (r : Int × Int × Int × Int) : Prop :=
 (¬ (IsP p ∧ EndOk num den) ∧ r = (0, 0, 0, 1)) ∨ (IsP p ∧ EndOk num den ∧ ¬ (-6 ≤ level ∧ level ≤ 6) ∧ r = (0, 0, 0, 2)) ∨
 (IsP p ∧ EndOk num den ∧ (-6 ≤ level ∧ level ≤ 6) ∧ den = 0 ∧ r = (0, 0, 0, 5)) ∨
 (IsP p ∧ EndOk num den ∧ (-6 ≤ level ∧ level ≤ 6) ∧ den ≠ 0 ∧ ∃ q, AtIs p num den level q ∧ r = fitR q)
theorem ballOfEnd_both (p num den level : Int) : ∃ r, Ev (fun k => spec_BallOfEnd.f k p num den level) r ∧ Ev (fun k => impl_BallOfEnd.f k p num den level) r ∧ BallOfEndIs p num den level r := by
 unfold spec_BallOfEnd.f impl_BallOfEnd.f
 simp only [l01Prime_eq, isPrime_eq, Option.bind_some]
 by_cases hp : IsP p
 ·simp only [hp, decide_true, if_true]
  by_cases he : EndOk num den
  ·have hgo : ∃ r, Ev (fun k => spec_BallOfEnd.j0 k p level false num den) r ∧ Ev (fun k => impl_BallOfEnd.j0 k p level false num den) r ∧ BallOfEndIs p num den level r := by
    by_cases hl : -6 ≤ level ∧ level ≤ 6
    ·by_cases hz : den = 0
     ·refine ⟨(0, 0, 0, 5), ?_, ?_, .inr (.inr (.inl ⟨hp, he, hl, hz, rfl⟩))⟩
      ·refine Ev.step (fun k => by rw [spec_BallOfEnd.j0]) ?_
       simp only [if_neg Bool.false_ne_true, l01In_eq, Option.bind_some, hl, and_self, decide_true, if_true, if_pos hz]; exact Ev.now _
      ·refine Ev.step (fun k => by rw [impl_BallOfEnd.j0]) ?_
       simp only [if_neg Bool.false_ne_true, isLevel_eq, Option.bind_some, hl, and_self, decide_true, if_true, if_pos hz]; exact Ev.now _
     ·have hrg : (-1000000 ≤ num ∧ num ≤ 1000000) ∧ -1000000 ≤ den ∧ den ≤ 1000000 := by
       have := he; unfold EndOk at this; rw [if_neg hz] at this; omega
      obtain ⟨r, hr, hr', hi⟩ := at_both (num := num) (level := level) hp hz (by omega) (by omega)
      refine ⟨fitR r, ?_, ?_, .inr (.inr (.inr ⟨hp, he, hl, hz, r, hi, rfl⟩))⟩
      ·refine Ev.step (fun k => by rw [spec_BallOfEnd.j0]) ?_
       simp only [if_neg Bool.false_ne_true, l01In_eq, Option.bind_some, hl, and_self, decide_true, if_true, if_neg hz]
       rw [bnd hr]
       unfold fitR
       by_cases h2 : r.2.2.2 = true
       ·simp only [if_pos h2]; exact Ev.now _
       ·simp only [if_neg h2]; exact Ev.now _
      ·refine Ev.step (fun k => by rw [impl_BallOfEnd.j0]) ?_
       simp only [if_neg Bool.false_ne_true, isLevel_eq, Option.bind_some, hl, and_self, decide_true, if_true, if_neg hz]
       rw [bnd hr']
       simp only [fitted_eq, Option.bind_some]
       exact Ev.now _
    ·refine ⟨(0, 0, 0, 2), ?_, ?_, .inr (.inl ⟨hp, he, hl, rfl⟩)⟩
     ·refine Ev.step (fun k => by rw [spec_BallOfEnd.j0]) ?_
      simp only [if_neg Bool.false_ne_true, l01In_eq, Option.bind_some, hl, decide_false]; exact Ev.now _
     ·refine Ev.step (fun k => by rw [impl_BallOfEnd.j0]) ?_
      simp only [if_neg Bool.false_ne_true, isLevel_eq, Option.bind_some, hl, decide_false]; exact Ev.now _
   obtain ⟨r, h1, h2, h3⟩ := hgo
   refine ⟨r, ?_, ?_, h3⟩
   ·rw [bnd l01End_ev]; simp only [he, decide_true, Bool.not_true]; exact h1
   ·rw [bnd IsEnd_ev]; simp only [he, decide_true, Bool.not_true]; exact h2
  ·refine ⟨(0, 0, 0, 1), ?_, ?_, .inl ⟨fun hc => he hc.2, rfl⟩⟩
   ·rw [bnd l01End_ev]; simp only [he, decide_false, Bool.not_false]
    refine Ev.step (fun k => by rw [spec_BallOfEnd.j0]) ?_
    simp only [if_true]; exact Ev.now _
   ·rw [bnd IsEnd_ev]; simp only [he, decide_false, Bool.not_false]
    refine Ev.step (fun k => by rw [impl_BallOfEnd.j0]) ?_
    simp only [if_true]; exact Ev.now _
 ·simp only [hp, decide_false, if_neg Bool.false_ne_true]
  refine ⟨(0, 0, 0, 1), ?_, ?_, .inl ⟨fun hc => hp hc.1, rfl⟩⟩
  ·refine Ev.step (fun k => by rw [spec_BallOfEnd.j0]) ?_
   simp only [if_true]; exact Ev.now _
  ·refine Ev.step (fun k => by rw [impl_BallOfEnd.j0]) ?_
   simp only [if_true]; exact Ev.now _
def Src (l : List Int) (at_ : Int) : Prop := (∀ x ∈ l, 0 ≤ x ∧ x ≤ 255) ∧ 0 ≤ at_ ∧ at_ ≤ l.length ∧ l.length ≤ 4097
theorem mask34 {x : Int} (h0 : 0 ≤ x) (h1 : x < 18446744073709551616) : Go.bits .and .u64 x 17179869183 = x % 17179869184 := by
 have := bits_mask .u64 64 (by decide) wraps_u64 34 (by decide) x h0 (by simpa using h1)
 simpa using this
theorem rd_mem {l : List Int} {i : Int} (h0 : 0 ≤ i) (h1 : i < l.length) : rd l i ∈ l := by
 unfold rd
 rw [List.getD_eq_getElem?_getD, List.getElem?_eq_getElem (by omega)]
 exact List.getElem_mem _
theorem tmod_in {x n : Int} (h0 : 0 ≤ x) (h1 : 1 ≤ n) : 0 ≤ Int.tmod x n ∧ Int.tmod x n < n := by
 rw [Int.tmod_eq_emod_of_nonneg h0]
 exact ⟨Int.emod_nonneg _ (by omega), Int.emod_lt_of_pos _ (by omega)⟩
theorem next_eq {l : List Int} {c h n : Int} (hs : Src l c) (hn : 1 ≤ n) : ∃ x c' h', spec_l01Next.f l c h n = some (x, c', h') ∧ (0 ≤ x ∧ x < n) ∧ Src l c' := by
 obtain ⟨hb, c0, c1, hl⟩ := hs
 unfold spec_l01Next.f
 simp only [if_neg (show ¬ n < 1 by omega), if_neg (show ¬ n = 0 by omega)]
 have hw : ∀ y : Int, (0 ≤ IntKind.u64.wrap y / 8388608) ∧ IntKind.u64.wrap y / 8388608 < 18446744073709551616 := fun y => by rw [wrapu]; omega
 rw [mask34 (hw _).1 (hw _).2]
 generalize IntKind.u64.wrap (IntKind.u64.wrap (h * 6364136223846793005) + 1442695040888963407) = H
 have hm : 0 ≤ H / 8388608 % 17179869184 ∧ H / 8388608 % 17179869184 < 17179869184 := by omega
 generalize H / 8388608 % 17179869184 = y at *
 rw [wrap_id (x := y) (by omega) (by omega)]
 by_cases hc : c < (l.length : Int)
 ·have hr := hb _ (rd_mem c0 hc)
  simp only [if_pos hc, if_pos c0]
  rw [wrap_id (x := rd l c) (by omega) (by omega), wrap_id (x := y + rd l c) (by omega) (by omega), wrap_id (x := c + 1) (by omega) (by omega)]
  exact ⟨_, _, _, rfl, tmod_in (by omega) hn, hb, by omega, by omega, hl⟩
 ·simp only [if_neg hc]
  exact ⟨_, _, _, rfl, tmod_in (by omega) hn, hb, c0, c1, hl⟩
theorem pick_eq {l : List Int} {c h : Int} {xs : List Int} (hs : Src l c) (hx : 1 ≤ xs.length) (hx' : xs.length ≤ 1000) : ∃ x c' h', spec_l01Pick.f l c h xs = some (x, c', h') ∧ x ∈ xs ∧ Src l c' := by
 unfold spec_l01Pick.f
 obtain ⟨x, c', h', e, hr, hs'⟩ := next_eq (h := h) hs (show 1 ≤ (xs.length : Int) by omega)
 rw [e]
 simp only [Option.bind_some, if_pos hr.1, if_pos hr.2]
 exact ⟨_, _, _, rfl, rd_mem hr.1 hr.2, hs'⟩
theorem from_l {l : List Int} : ∀ (d i : Nat) (h : Int), i + d = l.length → ∃ h', Ev (fun k => spec_l01From.l0 k l i l 0 h) (l, 0, h') := by
 intro d
 induction d with
 | zero =>
  intro i h hi
  refine ⟨h, Ev.step (fun k => by rw [spec_l01From.l0]) ?_⟩
  simp only [if_neg (show ¬ (i : Int) < (l.length : Int) by omega)]
  exact Ev.now _
 | succ d ih =>
  intro i h hi
  by_cases h4 : (i : Int) < 4096
  ·obtain ⟨h', e⟩ := ih (i + 1) (IntKind.u64.wrap ((IntKind.u64.wrap ((IntKind.u64.wrap (h * 1099511628211)) + (IntKind.u64.wrap (rd l i)))) + 71)) (by omega)
   refine ⟨h', Ev.step (fun k => by rw [spec_l01From.l0]) ?_⟩
   simp only [if_pos (show (i : Int) < (l.length : Int) by omega), if_pos h4, if_pos (show (0 : Int) ≤ i by omega)]
   rw [wrap_id (x := (i : Int) + 1) (by omega) (by omega)]
   exact e
  ·refine ⟨h, Ev.step (fun k => by rw [spec_l01From.l0]) ?_⟩
   simp only [if_pos (show (i : Int) < (l.length : Int) by omega), if_neg h4]
   exact Ev.now _
theorem from_ev {l : List Int} (hb : ∀ x ∈ l, (Lit.int .u8 x).wf = true) (hl : l.length ≤ 4097) : ∃ h, Ev (fun k => spec_l01From.f k l) (l, 0, h) ∧ Src l 0 := by
 obtain ⟨h, e⟩ := from_l (l := l) l.length 0 (IntKind.u64.wrap (12527 + (IntKind.u64.wrap ((l.length : Int))))) (by omega)
 refine ⟨h, e, fun x hx => ?_, by omega, by omega, hl⟩
 have := hb x hx
 simp [Lit.wf, IntKind.min, IntKind.max, IntKind.signed, IntKind.bits] at this; omega
def Sm (x : Int) : Prop := -4000000000000 ≤ x ∧ x ≤ 4000000000000
def SmB (l t d : Int) : Prop := Sm l ∧ Sm t ∧ Sm d
theorem Bal.sm {p l t d : Int} (hp : IsP p) (h : Bal p l t d) : (-6 ≤ l ∧ l ≤ 6) ∧ (0 ≤ t ∧ t ≤ 13841287201) ∧ 0 ≤ d ∧ d ≤ 6 := by
 have h1 := h.small hp
 unfold Bal at h
 split at h <;> omega
theorem Bal.zero {p l : Int} (hp : IsP p) (h : -6 ≤ l ∧ l ≤ 6) : Bal p l 0 0 := by
 by_cases hl : l + 0 ≤ 0
 ·rw [Bal_low hl]; omega
 ·rw [Bal_high hl]
  have := pow_pos' hp (l + 0).toNat
  exact ⟨h.1, h.2, by omega, by omega, by omega, this, .inl rfl⟩
theorem drawBall_ev {l : List Int} {c h p : Int} (hp : IsP p) (hs : Src l c) : ∃ lv t d c' h', Ev (fun k => spec_l01Draw.f k l c h p) (lv, t, d, c', h') ∧ Bal p lv t d ∧ Src l c' := by
 unfold spec_l01Draw.f
 obtain ⟨x1, c1, h1, e1, r1, s1⟩ := next_eq (h := h) hs (show (1 : Int) ≤ 13 by omega)
 obtain ⟨lv, c2, h2, e2, r2, s2⟩ := pick_eq (h := h1) (xs := [0, 1, 2, 3, wrap64 (x1 - 6)]) s1 (by simp) (by simp)
 obtain ⟨x3, c3, h3, e3, r3, s3⟩ := next_eq (h := h2) s2 (show (1 : Int) ≤ 6 by omega)
 have hlv : -6 ≤ lv ∧ lv ≤ 6 := by
  rw [wrap_id (x := x1 - 6) (by omega) (by omega)] at r2
  simp only [List.mem_cons, List.not_mem_nil, or_false] at r2; omega
 simp only [e1, e2, e3, Option.bind_some]
 by_cases h0 : x3 = 0
 ·simp only [if_pos h0]
  exact ⟨_, _, _, _, _, Ev.now _, Bal.zero hp hlv, s3⟩
 ·simp only [if_neg h0]
  obtain ⟨x4, c4, h4, e4, r4, s4⟩ := next_eq (h := h3) s3 (show (1 : Int) ≤ 20 by omega)
  obtain ⟨x5, c5, h5, e5, r5, s5⟩ := next_eq (h := h4) s4 (show (1 : Int) ≤ 2000000 by omega)
  obtain ⟨nm, c6, h6, e6, r6, s6⟩ := pick_eq (h := h5) (xs := [wrap64 (x4 - 10), wrap64 (x5 - 1000000)]) s5 (by simp) (by simp)
  obtain ⟨x7, c7, h7, e7, r7, s7⟩ := next_eq (h := h6) s6 (show (1 : Int) ≤ 7 by omega)
  obtain ⟨ex, c8, h8, e8, r8, s8⟩ := pick_eq (h := h7) (xs := [0, 0, 1, 2, x7]) s7 (by simp) (by simp)
  have hnm : -1000000 ≤ nm ∧ nm ≤ 1000000 := by
   rw [wrap_id (x := x4 - 10) (by omega) (by omega), wrap_id (x := x5 - 1000000) (by omega) (by omega)] at r6
   simp only [List.mem_cons, List.not_mem_nil, or_false] at r6; omega
  have hex : 0 ≤ ex ∧ ex ≤ 6 := by
   simp only [List.mem_cons, List.not_mem_nil, or_false] at r8; omega
  simp only [e4, e5, e6, e7, e8, Option.bind_some]
  have hof := l01Of_pow (t := nm) (level := lv) hp hex (by omega)
  rw [if_pos hlv] at hof
  refine ⟨lv, ofMt p lv (mk p nm ex), (ofMd p lv (mk p nm ex) : Int), c8, h8, ?_, ofM_bal hp hlv.1 hlv.2 _, s8⟩
  rw [bnd (l01Power_ev hp (show ex ≤ 22 by omega)), bnd hof]
  simp only [if_true]
  exact Ev.now _
theorem bad_eq {l : List Int} {c h lv t d : Int} (hs : Src l c) (hb : (-6 ≤ lv ∧ lv ≤ 6) ∧ (0 ≤ t ∧ t ≤ 13841287201) ∧ 0 ≤ d ∧ d ≤ 6) : ∃ lv' t' d' c' h', spec_l01Bad.f l c h lv t d = some (lv', t', d', c', h') ∧ SmB lv' t' d' ∧ Src l c' := by
 unfold spec_l01Bad.f SmB Sm
 obtain ⟨x1, c1, h1, e1, r1, s1⟩ := next_eq (h := h) hs (show (1 : Int) ≤ 40 by omega)
 simp only [e1, Option.bind_some]
 by_cases z0 : x1 = 0
 ·obtain ⟨y, c2, h2, e2, r2, s2⟩ := pick_eq (h := h1) (xs := [-7, 7, wrap64 (lv - 1), 1099511627776]) s1 (by simp) (by simp)
  simp only [if_pos z0, e2, Option.bind_some]
  rw [wrap_id (x := lv - 1) (by omega) (by omega)] at r2
  simp only [List.mem_cons, List.not_mem_nil, or_false] at r2
  exact ⟨_, _, _, _, _, rfl, by omega, s2⟩
 ·simp only [if_neg z0]
  by_cases z1 : x1 = 1
  ·obtain ⟨y, c2, h2, e2, r2, s2⟩ := pick_eq (h := h1) (xs := [-1, wrap64 (t * 7), 1099511627776]) s1 (by simp) (by simp)
   simp only [if_pos z1, e2, Option.bind_some]
   rw [wrap_id (x := t * 7) (by omega) (by omega)] at r2
   simp only [List.mem_cons, List.not_mem_nil, or_false] at r2
   exact ⟨_, _, _, _, _, rfl, by omega, s2⟩
  ·simp only [if_neg z1]
   by_cases z2 : x1 = 2
   ·obtain ⟨y, c2, h2, e2, r2, s2⟩ := pick_eq (h := h1) (xs := [-1, wrap64 (d + 1), 7]) s1 (by simp) (by simp)
    simp only [if_pos z2, e2, Option.bind_some]
    rw [wrap_id (x := d + 1) (by omega) (by omega)] at r2
    simp only [List.mem_cons, List.not_mem_nil, or_false] at r2
    exact ⟨_, _, _, _, _, rfl, by omega, s2⟩
   ·simp only [if_neg z2]
    exact ⟨_, _, _, _, _, rfl, by omega, s1⟩
theorem prime_eq {l : List Int} {c h : Int} (hs : Src l c) : ∃ p c' h', spec_l01DrawPrime.f l c h = some (p, c', h') ∧ IsP p ∧ Src l c' := by
 unfold spec_l01DrawPrime.f
 obtain ⟨p, c1, h1, e1, r1, s1⟩ := pick_eq (h := h) (xs := [2, 2, 3, 3, 5, 7]) hs (by simp) (by simp)
 simp only [e1, Option.bind_some]
 refine ⟨_, _, _, rfl, ?_, s1⟩
 simp only [List.mem_cons, List.not_mem_nil, or_false] at r1
 unfold IsP; omega
theorem spoil_ev {l : List Int} {c h : Int} (hs : Src l c) : ∃ p lv t d c' h', Ev (fun k => spec_l01Spoil.f k l c h) (p, lv, t, d, c', h') ∧ Sm p ∧ SmB lv t d ∧ Src l c' := by
 unfold spec_l01Spoil.f
 obtain ⟨p, c1, h1, e1, r1, s1⟩ := prime_eq (h := h) hs
 obtain ⟨lv, t, d, c2, h2, e2, r2, s2⟩ := drawBall_ev (h := h1) r1 s1
 obtain ⟨lv', t', d', c3, h3, e3, r3, s3⟩ := bad_eq (h := h2) s2 (Bal.sm r1 r2)
 obtain ⟨x4, c4, h4, e4, r4, s4⟩ := next_eq (h := h3) s3 (show (1 : Int) ≤ 40 by omega)
 by_cases z : x4 = 0
 ·obtain ⟨q, c5, h5, e5, r5, s5⟩ := pick_eq (h := h4) (xs := [0, 1, 4, 11, -3]) s4 (by simp) (by simp)
  refine ⟨q, lv', t', d', c5, h5, ?_, ?_, r3, s5⟩
  ·simp only [e1, Option.bind_some]
   rw [bnd e2]
   simp only [e3, e4, Option.bind_some, if_pos z, e5]
   exact Ev.now _
  ·simp only [List.mem_cons, List.not_mem_nil, or_false] at r5
   unfold Sm; omega
 ·refine ⟨p, lv', t', d', c4, h4, ?_, ?_, r3, s4⟩
  ·simp only [e1, Option.bind_some]
   rw [bnd e2]
   simp only [e3, e4, Option.bind_some, if_neg z]
   exact Ev.now _
  ·have := r1.two_le; have := r1.le_seven; unfold Sm; omega
theorem bt_ls {s : ByteArray} {pre rest : List UInt8} {c : UInt8} (h : s.data.toList = pre ++ c :: rest) : bt s (pre.length : Int) = (c.toNat : Int) := by
 have h2 : pre.length < s.size := by rw [Go.Lib.size_eq, h, List.length_append, List.length_cons]; omega
 have h3 := Go.Lib.data_getElem? s pre.length h2
 rw [h, List.getElem?_append_right (Nat.le_refl _), Nat.sub_self, List.getElem?_cons_zero] at h3
 have h4 := Option.some.inj h3
 have := bt_at s (pre.length : Int) (by simpa using h2)
 rw [← this]
 simp only [Int.toNat_natCast]
 rw [← h4]
theorem size_ls {s : ByteArray} {l : List UInt8} (h : s.data.toList = l) : (s.size : Int) = l.length := by rw [Go.Lib.size_eq, h]
def dg (c : UInt8) : Bool := decide (48 ≤ c.toNat) && decide (c.toNat ≤ 57)
def vald : Int → List UInt8 → Int
 | a, [] => a
 | a, c :: r => vald (a * 10 + ((c.toNat : Int) - 48)) r
theorem dg_iff {c : UInt8} : dg c = true ↔ 48 ≤ c.toNat ∧ c.toNat ≤ 57 := by unfold dg; simp
theorem vald_ge : ∀ (l : List UInt8) (a : Int), l.all dg = true → a * 10 ^ l.length ≤ vald a l := by
 intro l
 induction l with
 | nil => intro a _; simp [vald]
 | cons c r ih =>
  intro a h
  simp only [List.all_cons, Bool.and_eq_true] at h
  have hc := dg_iff.1 h.1
  have h1 := ih (a * 10 + ((c.toNat : Int) - 48)) h.2
  have p0 : (0 : Int) < 10 ^ r.length := Int.pow_pos (by omega)
  have h2 : (a * 10) * 10 ^ r.length ≤ (a * 10 + ((c.toNat : Int) - 48)) * 10 ^ r.length := Int.mul_le_mul_of_nonneg_right (by omega) (Int.le_of_lt p0)
  rw [List.length_cons, Int.pow_succ, show a * (10 ^ r.length * 10) = (a * 10) * 10 ^ r.length by rw [Int.mul_assoc, Int.mul_comm 10]]
  exact Int.le_trans h2 h1
theorem vald_lt : ∀ (l : List UInt8) (a : Int), l.all dg = true → vald a l < (a + 1) * 10 ^ l.length := by
 intro l
 induction l with
 | nil => intro a _; simp [vald]; omega
 | cons c r ih =>
  intro a h
  simp only [List.all_cons, Bool.and_eq_true] at h
  have hc := dg_iff.1 h.1
  have h1 := ih (a * 10 + ((c.toNat : Int) - 48)) h.2
  have p0 : (0 : Int) < 10 ^ r.length := Int.pow_pos (by omega)
  have h2 : (a * 10 + ((c.toNat : Int) - 48) + 1) * 10 ^ r.length ≤ ((a + 1) * 10) * 10 ^ r.length := Int.mul_le_mul_of_nonneg_right (by omega) (Int.le_of_lt p0)
  rw [List.length_cons, Int.pow_succ, show (a + 1) * (10 ^ r.length * 10) = ((a + 1) * 10) * 10 ^ r.length by rw [Int.mul_assoc, Int.mul_comm 10]]
  exact Int.lt_of_lt_of_le h1 h2
theorem vald_small {l : List UInt8} (h : l.all dg = true) {n : Nat} (hn : l.length ≤ n) : 0 ≤ vald 0 l ∧ vald 0 l < 10 ^ n := by
 have h1 := vald_ge l 0 h
 have h2 := vald_lt l 0 h
 have h3 : (10 : Int) ^ l.length ≤ 10 ^ n := by
  obtain ⟨d, rfl⟩ := Nat.le.dest hn
  rw [Int.pow_add]
  have : (1 : Int) ≤ 10 ^ d := Int.pow_pos (by omega)
  have h4 : (0 : Int) < 10 ^ l.length := Int.pow_pos (by omega)
  have := Int.mul_le_mul_of_nonneg_left this (Int.le_of_lt h4)
  omega
 omega
def numOk (l : List UInt8) : Bool := !l.isEmpty && l.all dg && (decide (l.length ≤ 1) || !(l.head? == some 48))
theorem numOk_iff {l : List UInt8} : numOk l = true ↔ l ≠ [] ∧ l.all dg = true ∧ (l.length ≤ 1 ∨ l.head? ≠ some 48) := by
 unfold numOk
 simp only [Bool.and_eq_true, Bool.or_eq_true, Bool.not_eq_true', decide_eq_true_eq, beq_eq_false_iff_ne, List.isEmpty_eq_false_iff, ne_eq, and_assoc]
theorem vald_big {l : List UInt8} (h0 : l ≠ []) (h : l.all dg = true) (h48 : l.head? ≠ some 48) : (10 : Int) ^ (l.length - 1) ≤ vald 0 l := by
 cases l with
 | nil => exact absurd rfl h0
 | cons c r =>
  simp only [List.all_cons, Bool.and_eq_true] at h
  have hc := dg_iff.1 h.1
  have hne : c ≠ 48 := fun z => h48 (by rw [z]; rfl)
  have hn : c.toNat ≠ 48 := fun z => hne (UInt8.toNat_inj.1 z)
  have h1 := vald_ge r (0 * 10 + ((c.toNat : Int) - 48)) h.2
  have p0 : (0 : Int) < 10 ^ r.length := Int.pow_pos (by omega)
  have h2 : 1 * 10 ^ r.length ≤ (0 * 10 + ((c.toNat : Int) - 48)) * 10 ^ r.length := Int.mul_le_mul_of_nonneg_right (by omega) (Int.le_of_lt p0)
  rw [List.length_cons, Nat.add_sub_cancel, vald]
  omega
def SN (l : List UInt8) : Int := if numOk l && decide (l.length ≤ 11) then vald 0 l else -1
def negT : List UInt8 → Bool × List UInt8
 | [] => (false, [])
 | c :: r => if c = 45 then (true, r) else (false, c :: r)
def SS (l : List UInt8) : Int × Bool := if (negT l).1 then (-SN (negT l).2, decide (SN (negT l).2 > 0)) else (SN l, decide (SN l ≥ 0))
def IN (m : Int) (l : List UInt8) : Int × Bool := if numOk (negT l).2 && decide (((negT l).2.length : Int) ≤ m) && !((negT l).1 && (negT l).2.head? == some 48) then (if (negT l).1 then -vald 0 (negT l).2 else vald 0 (negT l).2, true) else (0, false)
theorem negT_no {l : List UInt8} (h : (negT l).1 = false) : (negT l).2 = l := by
 cases l with
 | nil => rfl
 | cons c r =>
  by_cases hc : c = 45
  ·simp [negT, hc] at h
  ·simp [negT, hc]
theorem SN_ok {l : List UInt8} (h : 0 ≤ SN l) : numOk l = true ∧ l.length ≤ 11 ∧ SN l = vald 0 l := by
 unfold SN at h ⊢
 by_cases hz : (numOk l && decide (l.length ≤ 11)) = true
 ·rw [if_pos hz]
  simp only [Bool.and_eq_true, decide_eq_true_eq] at hz
  exact ⟨hz.1, hz.2, rfl⟩
 ·rw [if_neg hz] at h; omega
theorem SN_of {l : List UInt8} (h : numOk l = true) (h1 : l.length ≤ 11) : SN l = vald 0 l := by
 unfold SN
 rw [if_pos (by rw [h, decide_eq_true h1]; rfl)]
theorem pow10_le {a b : Nat} (h : a ≤ b) : (10 : Int) ^ a ≤ 10 ^ b := by
 obtain ⟨d, rfl⟩ := Nat.le.dest h
 rw [Int.pow_add]
 have h1 : (1 : Int) ≤ 10 ^ d := Int.pow_pos (by omega)
 have h4 : (0 : Int) < 10 ^ a := Int.pow_pos (by omega)
 have := Int.mul_le_mul_of_nonneg_left h1 (Int.le_of_lt h4)
 omega
theorem len_of_small {l : List UInt8} (h : numOk l = true) {m : Nat} (hm : 1 ≤ m) (hv : vald 0 l < 10 ^ m) : l.length ≤ m := by
 obtain ⟨h0, h1, h2⟩ := numOk_iff.1 h
 by_cases hc : l.length ≤ m
 ·exact hc
 ·exfalso
  have h3 := vald_big h0 h1 (h2.resolve_left (by omega))
  have := pow10_le (show m ≤ l.length - 1 by omega)
  omega
theorem pos_of_head {l : List UInt8} (h : numOk l = true) (h48 : l.head? ≠ some 48) : 1 ≤ vald 0 l := by
 obtain ⟨h0, h1, h2⟩ := numOk_iff.1 h
 have := vald_big h0 h1 h48
 have : (0 : Int) < 10 ^ (l.length - 1) := Int.pow_pos (by omega)
 omega
theorem IN_SS {m : Nat} (hm : m ≤ 11) {l : List UInt8} {v : Int} (h : IN m l = (v, true)) : SS l = (v, true) := by
 unfold IN at h
 split at h
 ·rename_i hc
  simp only [Bool.and_eq_true, decide_eq_true_eq, Bool.not_eq_true', Bool.and_eq_false_iff] at hc
  obtain ⟨⟨c1, c2⟩, c3⟩ := hc
  have e := SN_of c1 (show (negT l).2.length ≤ 11 by omega)
  have hnn := (vald_small (numOk_iff.1 c1).2.1 (Nat.le_refl _)).1
  unfold SS
  by_cases hn : (negT l).1 = true
  ·rw [if_pos hn] at h ⊢
   have h48 : (negT l).2.head? ≠ some 48 := by
    rcases c3 with c3 | c3
    ·rw [hn] at c3; exact absurd c3 (by simp)
    ·exact beq_eq_false_iff_ne.1 c3
   have hp := pos_of_head c1 h48
   have hv : -vald 0 (negT l).2 = v := (Prod.mk.inj h).1
   rw [e, hv, decide_eq_true (by omega)]
  ·have hn' : (negT l).1 = false := by simpa using hn
   rw [if_neg hn] at h ⊢
   rw [negT_no hn'] at e h hnn
   have hv : vald 0 l = v := (Prod.mk.inj h).1
   rw [e, hv, decide_eq_true (by omega)]
 ·exact absurd (Prod.mk.inj h).2 (by simp)
theorem SS_IN {m : Nat} (hm : 1 ≤ m) {l : List UInt8} {v : Int} (h : SS l = (v, true)) (h0 : -(10 : Int) ^ m < v) (h1 : v < 10 ^ m) : IN m l = (v, true) := by
 unfold SS at h
 unfold IN
 by_cases hn : (negT l).1 = true
 ·rw [if_pos hn] at h
  have hv : -SN (negT l).2 = v := (Prod.mk.inj h).1
  have hd : SN (negT l).2 > 0 := of_decide_eq_true (Prod.mk.inj h).2
  obtain ⟨k1, k2, k3⟩ := SN_ok (l := (negT l).2) (by omega)
  have hlen := len_of_small k1 hm (by omega)
  have h48 : ((negT l).2.head? == some 48) = false := by
   rw [beq_eq_false_iff_ne]
   intro z
   obtain ⟨n0, n1, n2⟩ := numOk_iff.1 k1
   have h1 : (negT l).2.length ≤ 1 := n2.resolve_right (fun w => w z)
   cases hc : (negT l).2 with
   | nil => exact n0 hc
   | cons c r =>
    rw [hc] at z h1
    have hr : r = [] := by
     cases r with
     | nil => rfl
     | cons _ _ => simp at h1
    have hcc : c = 48 := by simpa using z
    rw [hc, hr, hcc] at k3 hd
    have : vald 0 [48] = 0 := by decide
    omega
  rw [if_pos (by rw [k1, decide_eq_true (by omega), h48]; simp), if_pos hn]
  congr 1; omega
 ·have hn' : (negT l).1 = false := by simpa using hn
  rw [if_neg hn] at h
  have hv : SN l = v := (Prod.mk.inj h).1
  have hd : SN l ≥ 0 := of_decide_eq_true (Prod.mk.inj h).2
  obtain ⟨k1, k2, k3⟩ := SN_ok (l := l) (by omega)
  have hlen := len_of_small k1 hm (by omega)
  rw [negT_no hn', hn', if_pos (by rw [k1, decide_eq_true (by omega)]; rfl), if_neg (by simp)]
  congr 1; omega
theorem byte_dg {c : UInt8} : (c.toNat : Int) < 48 ∨ (c.toNat : Int) > 57 ↔ dg c = false := by
 rw [← Bool.not_eq_true, dg_iff]; omega
theorem l01Number_l {s : ByteArray} : ∀ (rest pre : List UInt8) (a : Int), s.data.toList = pre ++ rest → (pre ++ rest).length ≤ 12 → 0 ≤ a → a < 10 ^ pre.length →
  Ev (fun k => spec_l01Number.l0 k s a pre.length) (if rest.all dg then vald a rest else -1) := by
 intro rest
 induction rest with
 | nil =>
  intro pre a h hl a0 a1
  have hs := size_ls h
  rw [List.append_nil] at hs
  refine Ev.step (fun k => by rw [spec_l01Number.l0]) ?_
  simp only [if_neg (show ¬ (pre.length : Int) < (s.size : Int) by omega)]
  exact Ev.now _
 | cons c rest ih =>
  intro pre a h hl a0 a1
  have hs := size_ls h
  rw [List.length_append, List.length_cons] at hs hl
  have hb := bt_ls h
  refine Ev.step (fun k => by rw [spec_l01Number.l0]) ?_
  simp only [if_pos (show (pre.length : Int) < (s.size : Int) by omega), if_pos (show (0 : Int) ≤ pre.length by omega), hb]
  by_cases hc : dg c = true
  ·have hd := dg_iff.1 hc
   simp only [if_neg (show ¬ (c.toNat : Int) < 48 by omega), if_neg (show ¬ (c.toNat : Int) > 57 by omega)]
   have hp : (10 : Int) ^ pre.length ≤ 10 ^ 12 := pow10_le (by omega)
   have e12 : (10 : Int) ^ 12 = 1000000000000 := by decide
   rw [wrap_id (x := a * 10) (by omega) (by omega), show ((c.toNat : Int) - 48) % 256 = (c.toNat : Int) - 48 by omega, wrap_id (x := a * 10 + ((c.toNat : Int) - 48)) (by omega) (by omega), wrap_id (x := (pre.length : Int) + 1) (by omega) (by omega)]
   have e : pre ++ c :: rest = (pre ++ [c]) ++ rest := by rw [List.append_assoc]; rfl
   have := ih (pre ++ [c]) (a * 10 + ((c.toNat : Int) - 48)) (by rw [← e]; exact h) (by rw [← e, List.length_append, List.length_cons]; omega) (by omega) (by rw [List.length_append, List.length_singleton, Int.pow_succ]; omega)
   rw [List.length_append, List.length_singleton] at this
   simp only [List.all_cons, hc, Bool.true_and, vald]
   exact this
  ·have hc' : dg c = false := by simpa using hc
   simp only [List.all_cons, hc', Bool.false_and, if_neg Bool.false_ne_true]
   rcases byte_dg.2 hc' with h1 | h1
   ·simp only [if_pos h1]; exact Ev.now _
   ·simp only [if_neg (show ¬ (c.toNat : Int) < 48 by omega), if_pos h1]; exact Ev.now _
theorem l01Number_ev {s : ByteArray} {l : List UInt8} (h : s.data.toList = l) : Ev (fun k => spec_l01Number.f k s) (SN l) := by
 have hs := size_ls h
 have bad : SN l = -1 → Ev (fun k => spec_l01Number.j0 k s true) (SN l) := by
  intro e
  rw [e]
  refine Ev.step (fun k => by rw [spec_l01Number.j0]) ?_
  simp only [if_true]; exact Ev.now _
 have good : l ≠ [] → l.length ≤ 11 → (l.length ≤ 1 ∨ l.head? ≠ some 48) → Ev (fun k => spec_l01Number.j0 k s false) (SN l) := by
  intro h0 h1 h2
  refine Ev.step (fun k => by rw [spec_l01Number.j0]) ?_
  simp only [if_neg Bool.false_ne_true]
  have := l01Number_l l [] 0 h (by rw [List.nil_append]; omega) (by omega) (by simp)
  refine ev_eq this ?_
  unfold SN
  by_cases hd : l.all dg = true
  ·rw [if_pos hd, if_pos (by rw [numOk_iff.2 ⟨h0, hd, h2⟩, decide_eq_true h1]; rfl)]
  ·rw [if_neg hd, if_neg (by intro z; simp only [Bool.and_eq_true] at z; exact hd (numOk_iff.1 z.1).2.1)]
 unfold spec_l01Number.f
 by_cases h0 : l = []
 ·simp only [if_pos (show (s.size : Int) = 0 by rw [hs, h0]; rfl)]
  exact bad (by rw [h0]; rfl)
 ·have hl0 : 0 < l.length := List.length_pos_iff.2 h0
  simp only [if_neg (show ¬ (s.size : Int) = 0 by omega)]
  by_cases h1 : (s.size : Int) > 11
  ·simp only [if_pos h1]
   refine bad ?_
   unfold SN
   rw [if_neg (by intro z; simp only [Bool.and_eq_true, decide_eq_true_eq] at z; omega)]
  ·simp only [if_neg h1]
   by_cases h2 : (s.size : Int) > 1
   ·simp only [if_pos h2, if_pos (show 0 < (s.size : Int) by omega)]
    cases l with
    | nil => exact absurd rfl h0
    | cons c r =>
     have hb := bt_ls (pre := []) (rest := r) (c := c) h
     rw [show (([] : List UInt8).length : Int) = 0 from rfl] at hb
     rw [hb]
     by_cases hc : c = 48
     ·rw [show ((c.toNat : Int) == 48) = true by rw [hc]; rfl]
      refine bad ?_
      unfold SN
      rw [if_neg (by
       intro z
       simp only [Bool.and_eq_true] at z
       rcases (numOk_iff.1 z.1).2.2 with w | w
       ·omega
       ·exact w (by rw [hc]; rfl))]
     ·rw [show ((c.toNat : Int) == 48) = false by
       rw [beq_eq_false_iff_ne]
       intro z
       exact hc (UInt8.toNat_inj.1 (show c.toNat = (48 : UInt8).toNat by simpa using (show c.toNat = 48 by omega)))]
      exact good h0 (by omega) (.inr (by simpa using hc))
   ·simp only [if_neg h2]
    exact good h0 (by omega) (.inl (by omega))
theorem tail_ls {s : ByteArray} {c : UInt8} {r : List UInt8} (h : s.data.toList = c :: r) : (s.extract 1 s.size).data.toList = r := by
 rw [Go.Lib.extract_to_end, h]; rfl
theorem byte_eq {c d : UInt8} : ((c.toNat : Int) == (d.toNat : Int)) = decide (c = d) := by
 rw [Bool.eq_iff_iff, beq_iff_eq, decide_eq_true_eq]
 constructor
 ·intro h; exact UInt8.toNat_inj.1 (by omega)
 ·intro h; rw [h]
theorem l01Signed_ev {s : ByteArray} {l : List UInt8} (h : s.data.toList = l) : Ev (fun k => spec_l01Signed.f k s) (SS l) := by
 have hs := size_ls h
 have small : ∀ l : List UInt8, -1 ≤ SN l ∧ SN l ≤ 1000000000000 := by
  intro l
  unfold SN
  split
  ·rename_i z
   simp only [Bool.and_eq_true, decide_eq_true_eq] at z
   have := vald_small (numOk_iff.1 z.1).2.1 (n := 12) (by omega)
   have e12 : (10 : Int) ^ 12 = 1000000000000 := by decide
   omega
  ·omega
 unfold spec_l01Signed.f
 cases l with
 | nil =>
  rw [List.length_nil] at hs
  simp only [if_neg (show ¬ (s.size : Int) > 0 by omega)]
  refine Ev.step (fun k => by rw [spec_l01Signed.j0]) ?_
  simp only [if_neg Bool.false_ne_true]
  rw [bnd (l01Number_ev h)]
  exact Ev.now _
 | cons c r =>
  rw [List.length_cons] at hs
  simp only [if_pos (show (s.size : Int) > 0 by omega), if_pos (show 0 < (s.size : Int) by omega)]
  have hb := bt_ls (pre := []) (rest := r) (c := c) h
  rw [show (([] : List UInt8).length : Int) = 0 from rfl] at hb
  rw [hb, show (45 : Int) = ((45 : UInt8).toNat : Int) from rfl, byte_eq]
  by_cases hc : c = 45
  ·rw [decide_eq_true hc]
   refine Ev.step (fun k => by rw [spec_l01Signed.j0]) ?_
   simp only [if_true, if_pos (show 1 ≤ (s.size : Int) by omega)]
   rw [bnd (l01Number_ev (tail_ls h))]
   have hn := small r
   rw [wrap_id (x := -SN r) (by omega) (by omega)]
   refine ev_some ?_
   simp [SS, negT, hc]
  ·rw [decide_eq_false hc]
   refine Ev.step (fun k => by rw [spec_l01Signed.j0]) ?_
   simp only [if_neg Bool.false_ne_true]
   rw [bnd (l01Number_ev h)]
   refine ev_some ?_
   simp [SS, negT, hc]
theorem prefix_eq {s : ByteArray} {l : List UInt8} (h : s.data.toList = l) : ∃ t : ByteArray, strings_CutPrefix.f s (⟨#[45]⟩ : ByteArray) = some (t, (negT l).1) ∧ t.data.toList = (negT l).2 := by
 have hs := size_ls h
 have h1 : ((⟨#[45]⟩ : ByteArray).size : Int) = 1 := rfl
 unfold strings_CutPrefix.f stringslite_CutPrefix.f stringslite_HasPrefix.f
 rw [h1]
 cases l with
 | nil =>
  rw [List.length_nil] at hs
  simp only [if_neg (show ¬ (s.size : Int) ≥ 1 by omega), Option.bind_some, if_neg Bool.false_ne_true]
  exact ⟨s, rfl, h⟩
 | cons c r =>
  rw [List.length_cons] at hs
  have e : ((s.extract 0 ((1 : Int)).toNat).toList == (⟨#[45]⟩ : ByteArray).toList) = decide (c = 45) := by
   rw [Go.Lib.extract_toList, h, Go.Lib.toList_data]
   show ([c] == [45]) = decide (c = 45)
   rw [Bool.eq_iff_iff]; simp
  simp only [if_pos (show (s.size : Int) ≥ 1 by omega), if_pos (show (0 : Int) ≤ 1 by omega), if_pos (show (1 : Int) ≤ (s.size : Int) by omega), Option.bind_some, e]
  by_cases hc : c = 45
  ·simp only [decide_eq_true hc, if_true, Option.bind_some]
   refine ⟨s.extract 1 s.size, by simp [negT, hc], ?_⟩
   rw [tail_ls h]; simp [negT, hc]
  ·simp only [decide_eq_false hc, if_neg Bool.false_ne_true, Option.bind_some]
   exact ⟨s, by simp [negT, hc], by rw [h]; simp [negT, hc]⟩
theorem number_l {s : ByteArray} {n : Int} (ng : Bool) (hn : (s.size : Int) = n) : ∀ (rest pre : List UInt8) (a : Int), s.data.toList = pre ++ rest → (pre ++ rest).length ≤ 12 → 0 ≤ a → a < 10 ^ pre.length →
  Ev (fun k => impl_number.l0 k s ng a n pre.length) (if rest.all dg then (if ng then -vald a rest else vald a rest, true) else (0, false)) := by
 intro rest
 induction rest with
 | nil =>
  intro pre a h hl a0 a1
  have hs := size_ls h
  rw [List.append_nil] at hs hl
  have hp : (10 : Int) ^ pre.length ≤ 10 ^ 12 := pow10_le (by omega)
  have e12 : (10 : Int) ^ 12 = 1000000000000 := by decide
  refine Ev.step (fun k => by rw [impl_number.l0]) ?_
  simp only [if_neg (show ¬ (pre.length : Int) < n by omega), List.all_nil, if_true, vald]
  by_cases hg : ng = true
  ·simp only [if_pos hg]
   rw [wrap_id (x := -a) (by omega) (by omega)]
   exact Ev.now _
  ·simp only [if_neg hg]; exact Ev.now _
 | cons c rest ih =>
  intro pre a h hl a0 a1
  have hs := size_ls h
  rw [List.length_append, List.length_cons] at hs hl
  have hb := bt_ls h
  refine Ev.step (fun k => by rw [impl_number.l0]) ?_
  simp only [if_pos (show (pre.length : Int) < n by omega), if_pos (show (pre.length : Int) < (s.size : Int) by omega), if_pos (show (0 : Int) ≤ pre.length by omega), hb]
  by_cases hc : dg c = true
  ·have hd := dg_iff.1 hc
   simp only [if_neg (show ¬ (c.toNat : Int) < 48 by omega), if_neg (show ¬ (c.toNat : Int) > 57 by omega)]
   have hp : (10 : Int) ^ pre.length ≤ 10 ^ 12 := pow10_le (by omega)
   have e12 : (10 : Int) ^ 12 = 1000000000000 := by decide
   rw [wrap_id (x := a * 10) (by omega) (by omega), show ((c.toNat : Int) - 48) % 256 = (c.toNat : Int) - 48 by omega, wrap_id (x := a * 10 + ((c.toNat : Int) - 48)) (by omega) (by omega), wrap_id (x := (pre.length : Int) + 1) (by omega) (by omega)]
   have e : pre ++ c :: rest = (pre ++ [c]) ++ rest := by rw [List.append_assoc]; rfl
   have := ih (pre ++ [c]) (a * 10 + ((c.toNat : Int) - 48)) (by rw [← e]; exact h) (by rw [← e, List.length_append, List.length_cons]; omega) (by omega) (by rw [List.length_append, List.length_singleton, Int.pow_succ]; omega)
   rw [List.length_append, List.length_singleton] at this
   simp only [List.all_cons, hc, Bool.true_and, vald]
   exact this
  ·have hc' : dg c = false := by simpa using hc
   simp only [List.all_cons, hc', Bool.false_and, if_neg Bool.false_ne_true]
   rcases byte_dg.2 hc' with h1 | h1
   ·simp only [if_pos h1]; exact Ev.now _
   ·simp only [if_neg (show ¬ (c.toNat : Int) < 48 by omega), if_pos h1]; exact Ev.now _
theorem number_ev {s : ByteArray} {l : List UInt8} {m : Int} (h : s.data.toList = l) (hm : 1 ≤ m ∧ m ≤ 12) : Ev (fun k => impl_number.f k s m) (IN m l) := by
 obtain ⟨t, et, ht⟩ := prefix_eq h
 have hs := size_ls ht
 unfold impl_number.f
 simp only [et, Option.bind_some]
 have bad : ∀ ng, IN m l = (0, false) → Ev (fun k => impl_number.j0 k t ng true) (IN m l) := by
  intro ng e
  rw [e]
  refine Ev.step (fun k => by rw [impl_number.j0]) ?_
  simp only [if_true]; exact Ev.now _
 have no : ∀ w : (numOk (negT l).2 && decide (((negT l).2.length : Int) ≤ m) && !((negT l).1 && (negT l).2.head? == some 48)) = false, IN m l = (0, false) := by
  intro w
  unfold IN
  rw [if_neg (by rw [w]; simp)]
 have good : (negT l).2 ≠ [] → ((negT l).2.length : Int) ≤ m → ((negT l).2.length ≤ 1 ∨ (negT l).2.head? ≠ some 48) → ((negT l).1 && (negT l).2.head? == some 48) = false → Ev (fun k => impl_number.j0 k t (negT l).1 false) (IN m l) := by
  intro h0 h1 h2 h3
  refine Ev.step (fun k => by rw [impl_number.j0]) ?_
  simp only [if_neg Bool.false_ne_true]
  have := number_l (negT l).1 (rfl : (t.size : Int) = t.size) (negT l).2 [] 0 ht (by rw [List.nil_append]; omega) (by omega) (by simp)
  refine ev_eq this ?_
  by_cases hd : (negT l).2.all dg = true
  ·unfold IN
   have hw : (numOk (negT l).2 && decide (((negT l).2.length : Int) ≤ m) && !((negT l).1 && (negT l).2.head? == some 48)) = true := by rw [numOk_iff.2 ⟨h0, hd, h2⟩, decide_eq_true h1, h3]; rfl
   rw [if_pos hd, hw, if_pos rfl]
  ·rw [if_neg hd]
   refine (no ?_).symm
   have : numOk (negT l).2 = false := by
    rw [← Bool.not_eq_true]; intro z; exact hd (numOk_iff.1 z).2.1
   rw [this]; rfl
 have hemp : t.toList = ([] : List UInt8) ↔ (negT l).2 = [] := by rw [Go.Lib.toList_data, ht]
 by_cases h0 : (negT l).2 = []
 ·simp only [if_pos (hemp.2 h0)]
  exact bad _ (no (by rw [h0]; rfl))
 ·simp only [if_neg (fun z => h0 (hemp.1 z))]
  have hl0 : 0 < (negT l).2.length := List.length_pos_iff.2 h0
  by_cases h1 : (t.size : Int) > m
  ·simp only [if_pos h1]
   exact bad _ (no (by rw [decide_eq_false (show ¬ ((negT l).2.length : Int) ≤ m by omega), Bool.and_false, Bool.false_and]))
  ·simp only [if_neg h1, if_pos (show 0 < (t.size : Int) by omega)]
   obtain ⟨c, r, hcr⟩ : ∃ c r, (negT l).2 = c :: r := by
    cases hx : (negT l).2 with
    | nil => exact absurd hx h0
    | cons c r => exact ⟨c, r, rfl⟩
   have hb := bt_ls (pre := []) (rest := r) (c := c) (by rw [ht, hcr]; rfl)
   rw [show (([] : List UInt8).length : Int) = 0 from rfl] at hb
   have hhead : (negT l).2.head? = some c := by rw [hcr]; rfl
   rw [hb]
   by_cases hc : c = 48
   ·have h48 : ((negT l).2.head? == some 48) = true := by rw [hhead, hc]; rfl
    simp only [if_pos (show (c.toNat : Int) = 48 by rw [hc]; rfl)]
    by_cases h2 : (t.size : Int) > 1
    ·simp only [if_pos h2]
     refine bad _ (no ?_)
     have : numOk (negT l).2 = false := by
      rw [← Bool.not_eq_true]; intro z
      rcases (numOk_iff.1 z).2.2 with w | w
      ·omega
      ·exact w (by rw [hhead, hc])
     rw [this]; rfl
    ·simp only [if_neg h2]
     by_cases hg : (negT l).1 = true
     ·have := bad (negT l).1 (no (by rw [hg, h48]; simp))
      rw [hg] at this ⊢
      exact this
     ·have hg' : (negT l).1 = false := by simpa using hg
      have := good h0 (by omega) (.inl (by omega)) (by rw [hg']; rfl)
      rw [hg'] at this ⊢
      exact this
   ·have hne : (negT l).2.head? ≠ some 48 := by rw [hhead]; intro z; exact hc (Option.some.inj z)
    have h48 : ((negT l).2.head? == some 48) = false := beq_eq_false_iff_ne.2 hne
    simp only [if_neg (show ¬ (c.toNat : Int) = 48 from fun z => hc (UInt8.toNat_inj.1 (show c.toNat = (48 : UInt8).toNat by have e : (48 : UInt8).toNat = 48 := rfl; omega)))]
    exact good h0 (by omega) (.inr hne) (by rw [h48, Bool.and_false])
theorem indexByte_no {c : UInt8} : ∀ l : List UInt8, c ∉ l → Go.Lib.indexByte l c = -1 := by
 intro l
 induction l with
 | nil => intro _; rfl
 | cons b r ih =>
  intro h
  rw [List.mem_cons, not_or] at h
  unfold Go.Lib.indexByte
  rw [if_neg (by simpa using fun z : b = c => h.1 z.symm), if_pos (by rw [ih h.2]; rfl)]
theorem indexByte_at {c : UInt8} : ∀ (a b : List UInt8), c ∉ a → Go.Lib.indexByte (a ++ c :: b) c = a.length := by
 intro a
 induction a with
 | nil => intro b _; unfold Go.Lib.indexByte; rw [List.nil_append]; simp
 | cons x a ih =>
  intro b h
  rw [List.mem_cons, not_or] at h
  have e := ih b h.2
  rw [List.cons_append]
  unfold Go.Lib.indexByte
  rw [if_neg (by simpa using fun z : x = c => h.1 z.symm), e, if_neg (by rw [beq_iff_eq]; omega), List.length_cons]
  omega
theorem first_of {c : UInt8} {l : List UInt8} (h : c ∈ l) : ∃ a b, l = a ++ c :: b ∧ c ∉ a := by
 induction l with
 | nil => exact absurd h (by simp)
 | cons x l ih =>
  by_cases hx : x = c
  ·exact ⟨[], l, by rw [hx]; rfl, by simp⟩
  ·rcases List.mem_cons.1 h with h | h
   ·exact absurd h.symm hx
   ·obtain ⟨a, b, e, hn⟩ := ih h
    refine ⟨x :: a, b, by rw [e]; rfl, ?_⟩
    rw [List.mem_cons, not_or]
    exact ⟨fun z => hx z.symm, hn⟩
theorem index_ev {s : ByteArray} {l : List UInt8} {c : UInt8} (h : s.data.toList = l) : Ev (fun k => stringslite_Index.f k s (⟨#[c]⟩ : ByteArray)) (Go.Lib.indexByte l c) := by
 have h1 : ((⟨#[c]⟩ : ByteArray).size : Int) = 1 := rfl
 have hl : (⟨#[c]⟩ : ByteArray).toList = [c] := by rw [Go.Lib.toList_data]
 have hb : bt (⟨#[c]⟩ : ByteArray) 0 = (c.toNat : Int) := by
  have := bt_ls (s := ⟨#[c]⟩) (pre := []) (rest := []) (c := c) rfl
  exact this
 unfold stringslite_Index.f
 rw [h1]
 simp only [if_neg (show ¬ (1 : Int) = 0 by omega)]
 rw [hl, Go.Lib.toList_data, h]
 by_cases hx : [c] = l
 ·rw [show ([c] == l) = true from beq_iff_eq.2 hx]
  refine Ev.step (fun k => by rw [stringslite_Index.j0]) ?_
  simp only [if_true]
  refine ev_some ?_
  rw [← hx]
  have := indexByte_at (c := c) [] [] (by simp)
  rw [List.nil_append] at this
  rw [this]; rfl
 ·rw [show ([c] == l) = false from beq_eq_false_iff_ne.2 hx]
  refine Ev.step (fun k => by rw [stringslite_Index.j0]) ?_
  simp only [if_neg Bool.false_ne_true, if_true, h1, if_pos (show (0 : Int) < 1 by omega), stringslite_IndexByte.f, bytealg_IndexByteString.f, Option.bind_some, hb]
  refine ev_some ?_
  rw [h]
  congr 1
  simp
theorem cut_ev {s : ByteArray} {l : List UInt8} {c : UInt8} (h : s.data.toList = l) (hl : l.length ≤ 8000000000000) :
  ∃ r : ByteArray × ByteArray × Bool, Ev (fun k => strings_Cut.f k s (⟨#[c]⟩ : ByteArray)) r ∧ ((c ∉ l ∧ r.1.data.toList = l ∧ r.2.1.data.toList = []) ∨ ∃ a b, l = a ++ c :: b ∧ c ∉ a ∧ r.1.data.toList = a ∧ r.2.1.data.toList = b) := by
 have hs := size_ls h
 have h1 : ((⟨#[c]⟩ : ByteArray).size : Int) = 1 := rfl
 by_cases hc : c ∈ l
 ·obtain ⟨a, b, e, hn⟩ := first_of hc
  have hx : Go.Lib.indexByte l c = a.length := by rw [e]; exact indexByte_at a b hn
  have hla : l.length = a.length + (b.length + 1) := by rw [e, List.length_append, List.length_cons]
  refine ⟨(s.extract 0 ((a.length : Int)).toNat, s.extract (((a.length : Int) + 1)).toNat s.size, true), ?_, .inr ⟨a, b, e, hn, ?_, ?_⟩⟩
  ·unfold strings_Cut.f
   have : Ev (fun k => stringslite_Cut.f k s (⟨#[c]⟩ : ByteArray)) (s.extract 0 ((a.length : Int)).toNat, s.extract (((a.length : Int) + 1)).toNat s.size, true) := by
    unfold stringslite_Cut.f
    rw [bnd (index_ev h), hx, h1, wrap_id (x := (a.length : Int) + 1) (by omega) (by omega)]
    simp only [if_pos (show (a.length : Int) ≥ 0 by omega), if_pos (show (0 : Int) ≤ (a.length : Int) by omega), if_pos (show (a.length : Int) ≤ (s.size : Int) by omega), if_pos (show (0 : Int) ≤ (a.length : Int) + 1 by omega), if_pos (show (a.length : Int) + 1 ≤ (s.size : Int) by omega)]
    exact Ev.now _
   rw [bnd this]; exact Ev.now _
  ·show (s.extract 0 ((a.length : Int)).toNat).data.toList = a
   rw [Go.Lib.extract_data, h, e, List.drop_zero, Int.toNat_natCast, Nat.sub_zero, List.take_left']
   rfl
  ·show (s.extract (((a.length : Int) + 1)).toNat s.size).data.toList = b
   rw [Go.Lib.extract_to_end, h, e, show (((a.length : Int) + 1)).toNat = a.length + 1 by omega, ← List.drop_drop, List.drop_left' rfl]
   rfl
 ·have hx := indexByte_no l hc
  refine ⟨(s, (⟨#[]⟩ : ByteArray), false), ?_, .inl ⟨hc, h, rfl⟩⟩
  unfold strings_Cut.f
  have : Ev (fun k => stringslite_Cut.f k s (⟨#[c]⟩ : ByteArray)) (s, (⟨#[]⟩ : ByteArray), false) := by
   unfold stringslite_Cut.f
   rw [bnd (index_ev h), hx]
   simp only [if_neg (show ¬ (-1 : Int) ≥ 0 by omega)]
   exact Ev.now _
  rw [bnd this]; exact Ev.now _
def spl (c : UInt8) : List UInt8 → List UInt8 → List (List UInt8)
 | cur, [] => [cur]
 | cur, b :: r => if b = c then cur :: spl c [] r else spl c (cur ++ [b]) r
theorem spl_no {c : UInt8} : ∀ (l cur : List UInt8), c ∉ l → spl c cur l = [cur ++ l] := by
 intro l
 induction l with
 | nil => intro cur _; rw [spl, List.append_nil]
 | cons b r ih =>
  intro cur h
  rw [List.mem_cons, not_or] at h
  rw [spl, if_neg (fun z => h.1 z.symm), ih _ h.2, List.append_assoc]; rfl
theorem spl_at {c : UInt8} (b : List UInt8) : ∀ (a cur : List UInt8), c ∉ a → spl c cur (a ++ c :: b) = (cur ++ a) :: spl c [] b := by
 intro a
 induction a with
 | nil => intro cur _; rw [List.nil_append, spl, if_pos rfl, List.append_nil]
 | cons x a ih =>
  intro cur h
  rw [List.mem_cons, not_or] at h
  rw [List.cons_append, spl, if_neg (fun z => h.1 z.symm), ih _ h.2, List.append_assoc]; rfl
theorem spl_pos {c : UInt8} (l : List UInt8) : 1 ≤ (spl c [] l).length := by
 by_cases h : c ∈ l
 ·obtain ⟨a, b, e, hn⟩ := first_of h
  rw [e, spl_at b a [] hn, List.length_cons]; omega
 ·rw [spl_no l [] h]; simp
theorem spl_two {c : UInt8} {l : List UInt8} (h : c ∈ l) : 2 ≤ (spl c [] l).length := by
 obtain ⟨a, b, e, hn⟩ := first_of h
 rw [e, spl_at b a [] hn, List.length_cons]
 have := spl_pos (c := c) b
 omega
theorem split_l {s : ByteArray} {c : UInt8} : ∀ (rest pre cur : List UInt8) (acc : List ByteArray), s.data.toList = pre ++ (cur ++ rest) → s.data.toList.length ≤ 8000000000000 → acc.length + rest.length ≤ 8000000000000 →
  ∃ r : List ByteArray, Ev (fun k => spec_l01Split.l0 k s (c.toNat : Int) acc pre.length ((pre ++ cur).length : Int)) r ∧ r.map (·.data.toList) = acc.map (·.data.toList) ++ spl c cur rest := by
 intro rest
 induction rest with
 | nil =>
  intro pre cur acc h hl ha
  have hs := size_ls h
  rw [List.append_nil] at h hs
  rw [h] at hl
  rw [List.length_append] at hs hl
  refine ⟨acc ++ [s.extract ((pre.length : Int)).toNat s.size], Ev.step (fun k => by rw [spec_l01Split.l0]) ?_, ?_⟩
  ·rw [List.length_append]
   simp only [if_neg (show ¬ ((pre.length + cur.length : Nat) : Int) < (s.size : Int) by omega), if_pos (show (0 : Int) ≤ pre.length by omega), if_pos (show (pre.length : Int) ≤ (s.size : Int) by omega), if_pos (show acc.length < 8796093022208 by omega)]
   exact Ev.now _
  ·rw [List.map_append, spl]
   congr 1
   show [(s.extract ((pre.length : Int)).toNat s.size).data.toList] = [cur]
   rw [Go.Lib.extract_to_end, h, Int.toNat_natCast, List.drop_left' rfl]
 | cons b rest ih =>
  intro pre cur acc h hl ha
  have hs := size_ls h
  have hl' := hl
  rw [h] at hl'
  simp only [List.length_append, List.length_cons] at hs hl' ha
  have hb := bt_ls (pre := pre ++ cur) (rest := rest) (c := b) (by rw [h, List.append_assoc])
  by_cases hc : b = c
  ·have hq : s.data.toList = (pre ++ cur ++ [b]) ++ ([] ++ rest) := by rw [h]; simp
   obtain ⟨r, er, hr⟩ := ih (pre ++ cur ++ [b]) [] (acc ++ [s.extract ((pre.length : Int)).toNat (((pre ++ cur).length : Int)).toNat]) hq hl (by rw [List.length_append, List.length_singleton]; omega)
   refine ⟨r, Ev.step (fun k => by rw [spec_l01Split.l0]) ?_, ?_⟩
   ·simp only [hb]
    rw [List.append_nil, (List.length_append : (pre ++ cur ++ [b]).length = (pre ++ cur).length + [b].length), List.length_singleton] at er
    simp only [List.length_append] at er ⊢
    simp only [if_pos (show ((pre.length + cur.length : Nat) : Int) < (s.size : Int) by omega), if_pos (show (0 : Int) ≤ ((pre.length + cur.length : Nat) : Int) by omega), if_pos (show (b.toNat : Int) = (c.toNat : Int) by rw [hc]), if_pos (show (0 : Int) ≤ pre.length by omega), if_pos (show (pre.length : Int) ≤ ((pre.length + cur.length : Nat) : Int) by omega), if_pos (show ((pre.length + cur.length : Nat) : Int) ≤ (s.size : Int) by omega), if_pos (show acc.length < 8796093022208 by omega)]
    rw [wrap_id (x := ((pre.length + cur.length : Nat) : Int) + 1) (by omega) (by omega)]
    exact er
   ·rw [hr, List.map_append, List.append_assoc, spl, if_pos hc]
    congr 1
    show [(s.extract ((pre.length : Int)).toNat (((pre ++ cur).length : Int)).toNat).data.toList] ++ spl c [] rest = cur :: spl c [] rest
    rw [Go.Lib.extract_data, h, Int.toNat_natCast, Int.toNat_natCast, List.drop_left' rfl, List.length_append, show pre.length + cur.length - pre.length = cur.length by omega, List.take_left' rfl]
    rfl
  ·obtain ⟨r, er, hr⟩ := ih pre (cur ++ [b]) acc (by rw [h]; simp) hl (by omega)
   refine ⟨r, Ev.step (fun k => by rw [spec_l01Split.l0]) ?_, by rw [hr, spl, if_neg hc]⟩
   simp only [hb]
   simp only [List.length_append, List.length_singleton] at er ⊢
   simp only [if_pos (show ((pre.length + cur.length : Nat) : Int) < (s.size : Int) by omega), if_pos (show (0 : Int) ≤ ((pre.length + cur.length : Nat) : Int) by omega), if_neg (show ¬ (b.toNat : Int) = (c.toNat : Int) from fun z => hc (UInt8.toNat_inj.1 (by omega)))]
   rw [wrap_id (x := ((pre.length + cur.length : Nat) : Int) + 1) (by omega) (by omega)]
   exact er
theorem split_ev {s : ByteArray} {l : List UInt8} {c : UInt8} (h : s.data.toList = l) (hl : l.length ≤ 8000000000000) :
  ∃ r : List ByteArray, Ev (fun k => spec_l01Split.f k s (c.toNat : Int)) r ∧ r.map (·.data.toList) = spl c [] l := by
 obtain ⟨r, er, hr⟩ := split_l (s := s) (c := c) l [] [] [] (by rw [h]; rfl) (by rw [h]; exact hl) (by simpa using hl)
 exact ⟨r, er, by simpa using hr⟩
theorem two_pieces {r : List ByteArray} {a b : List UInt8} (h : r.map (·.data.toList) = [a, b]) : ∃ x y : ByteArray, r = [x, y] ∧ x.data.toList = a ∧ y.data.toList = b := by
 match r, h with
 | [x, y], h => simp at h; exact ⟨x, y, rfl, h.1, h.2⟩
theorem IN_dig {m : Int} {l : List UInt8} (h : (IN m l).2 = true) : numOk (negT l).2 = true := by
 unfold IN at h
 split at h
 ·rename_i z; simp only [Bool.and_eq_true] at z; exact z.1.1
 ·exact absurd h (by simp)
theorem dig_in {l : List UInt8} (h : numOk l = true) {c : UInt8} (hc : c ∈ l) : dg c = true := by
 have := (numOk_iff.1 h).2.1
 rw [List.all_eq_true] at this
 exact this c hc
theorem IN_no {m : Int} {l : List UInt8} {c : UInt8} (hc : c ∈ l) (h1 : dg c = false) (h2 : c ≠ 45) : (IN m l).2 = false := by
 rw [← Bool.not_eq_true]
 intro h
 have hk := IN_dig h
 have : c ∈ (negT l).2 := by
  cases l with
  | nil => exact absurd hc (by simp)
  | cons x r =>
   by_cases hx : x = 45
   ·rcases List.mem_cons.1 hc with z | z
    ·exact absurd (z.trans hx) h2
    ·simpa [negT, hx] using z
   ·simpa [negT, hx] using hc
 have := dig_in hk this
 rw [h1] at this; exact absurd this (by simp)
theorem SN_SS {l : List UInt8} (h : 0 ≤ SN l) : SS l = (SN l, true) := by
 obtain ⟨k, _, _⟩ := SN_ok h
 have hn : (negT l).1 = false := by
  cases l with
  | nil => rfl
  | cons x r =>
   by_cases hx : x = 45
   ·have := dig_in k (List.mem_cons_self ..)
    rw [hx] at this; exact absurd this (by decide)
   ·simp [negT, hx]
 unfold SS
 rw [hn, if_neg (by simp), decide_eq_true (show SN l ≥ 0 by omega)]
theorem IN_SN {m : Nat} (hm : m ≤ 11) {l : List UInt8} {v : Int} (h : IN m l = (v, true)) (h0 : 1 ≤ v) : SN l = v := by
 have h1 := IN_SS hm h
 unfold SS at h1
 by_cases hn : (negT l).1 = true
 ·rw [if_pos hn] at h1
  have a := (Prod.mk.inj h1).1
  have b := of_decide_eq_true (Prod.mk.inj h1).2
  omega
 ·rw [if_neg hn] at h1
  exact (Prod.mk.inj h1).1
theorem SN_range (l : List UInt8) : -1 ≤ SN l ∧ SN l ≤ 1000000000000 := by
 unfold SN
 split
 ·rename_i z
  simp only [Bool.and_eq_true, decide_eq_true_eq] at z
  have := vald_small (numOk_iff.1 z.1).2.1 (n := 12) (by omega)
  have e12 : (10 : Int) ^ 12 = 1000000000000 := by decide
  omega
 ·omega
theorem IN_range {m : Int} (hm : m ≤ 12) (l : List UInt8) : -1000000000000 ≤ (IN m l).1 ∧ (IN m l).1 ≤ 1000000000000 := by
 have e12 : (10 : Int) ^ 12 = 1000000000000 := by decide
 unfold IN
 split
 ·rename_i z
  simp only [Bool.and_eq_true, decide_eq_true_eq] at z
  have := vald_small (numOk_iff.1 z.1.1).2.1 (n := 12) (by omega)
  split <;> (dsimp only; omega)
 ·dsimp only; omega
theorem IN_SN_small {m : Int} {l : List UInt8} {v : Int} (h : IN m l = (v, true)) (h0 : 0 ≤ v) (h1 : v < 100000000000) : SN l = v := by
 have e11 : (10 : Int) ^ 11 = 100000000000 := by decide
 unfold IN at h
 split at h
 ·rename_i hc
  simp only [Bool.and_eq_true, decide_eq_true_eq, Bool.not_eq_true', Bool.and_eq_false_iff] at hc
  obtain ⟨⟨c1, c2⟩, c3⟩ := hc
  by_cases hn : (negT l).1 = true
  ·rw [if_pos hn] at h
   have h48 : (negT l).2.head? ≠ some 48 := by
    rcases c3 with c3 | c3
    ·rw [hn] at c3; exact absurd c3 (by simp)
    ·exact beq_eq_false_iff_ne.1 c3
   have hp := pos_of_head c1 h48
   have hv : -vald 0 (negT l).2 = v := (Prod.mk.inj h).1
   omega
  ·have hn' : (negT l).1 = false := by simpa using hn
   rw [if_neg hn] at h
   have hv : vald 0 (negT l).2 = v := (Prod.mk.inj h).1
   rw [negT_no hn'] at hv c1
   rw [SN_of c1 (len_of_small c1 (by omega) (by omega)), hv]
 ·exact absurd (Prod.mk.inj h).2 (by simp)
theorem first_uniq {c : UInt8} {a b a' b' : List UInt8} (h : a ++ c :: b = a' ++ c :: b') (ha : c ∉ a) (ha' : c ∉ a') : a = a' ∧ b = b' := by
 have e1 := spl_at b a [] ha
 have e2 := spl_at b' a' [] ha'
 rw [h, e2] at e1
 have e3 := (List.cons.inj e1).1
 rw [List.nil_append, List.nil_append] at e3
 subst e3
 have := List.append_cancel_left h
 exact ⟨rfl, (List.cons.inj this).2⟩
theorem spl_inv {c : UInt8} {l x y : List UInt8} (h : spl c [] l = [x, y]) : l = x ++ c :: y ∧ c ∉ x ∧ c ∉ y := by
 by_cases hc : c ∈ l
 ·obtain ⟨a, b, e, hn⟩ := first_of hc
  rw [e, spl_at b a [] hn, List.nil_append] at h
  obtain ⟨h1, h2⟩ := List.cons.inj h
  have hb : c ∉ b := fun z => by
   have := spl_two z
   rw [h2] at this; simp at this
  rw [spl_no b [] hb, List.nil_append] at h2
  have h3 := (List.cons.inj h2).1
  subst h1; subst h3
  exact ⟨e, hn, hb⟩
 ·rw [spl_no l [] hc] at h
  exact absurd (List.cons.inj h).2 (by simp)
def DT (n : Int) : ByteArray := ⟨(Go.Lib.itoa n).toArray⟩
theorem DT_size {n : Int} (h0 : -9223372036854775808 ≤ n) (h1 : n ≤ 9223372036854775807) : (DT n).size ≤ 21 := by
 have := Go.Lib.itoa_length_le n h0 h1
 unfold DT
 rw [Go.Lib.size_eq]
 exact this
theorem ba_ext {a b : ByteArray} (h : a.data.toList = b.data.toList) : a = b := by
 obtain ⟨⟨x⟩⟩ := a
 obtain ⟨⟨y⟩⟩ := b
 simp at h
 rw [h]
theorem ba_app (a b : ByteArray) : (a ++ b).data.toList = a.data.toList ++ b.data.toList := by
 obtain ⟨a⟩ := a
 obtain ⟨b⟩ := b
 rw [ByteArray.mk_append_mk]
theorem dec_nat : ∀ (n u : Nat), u ≤ n → u ≤ 9223372036854775807 → Ev (fun k => spec_l01Dec.f k (u : Int)) (⟨(Go.Lib.decDigits u).toArray⟩ : ByteArray) := by
 intro n
 induction n with
 | zero =>
  intro u hu h1
  have h10 : u < 10 := by omega
  refine Ev.step (fun k => by rw [spec_l01Dec.f]) ?_
  simp only [if_neg (show ¬ (u : Int) < 0 by omega), if_pos (show (u : Int) < 10 by omega)]
  refine ev_some ?_
  rw [wrap_id (by omega) (by omega), Go.Lib.decDigits_one h10]
  apply ba_ext
  show [UInt8.ofNat ((48 + (u : Int)) % 256).toNat] = [UInt8.ofNat (48 + u)]
  rw [show ((48 + (u : Int)) % 256).toNat = 48 + u by omega]
 | succ n ih =>
  intro u hu h1
  by_cases h10 : u < 10
  ·refine Ev.step (fun k => by rw [spec_l01Dec.f]) ?_
   simp only [if_neg (show ¬ (u : Int) < 0 by omega), if_pos (show (u : Int) < 10 by omega)]
   refine ev_some ?_
   rw [wrap_id (by omega) (by omega), Go.Lib.decDigits_one h10]
   apply ba_ext
   show [UInt8.ofNat ((48 + (u : Int)) % 256).toNat] = [UInt8.ofNat (48 + u)]
   rw [show ((48 + (u : Int)) % 256).toNat = 48 + u by omega]
  ·have hr := ih (u / 10) (by omega) (by omega)
   have ed : Int.tdiv (u : Int) 10 = ((u / 10 : Nat) : Int) := by rw [Int.tdiv_eq_ediv_of_nonneg (by omega)]; omega
   have em : Int.tmod (u : Int) 10 = ((u % 10 : Nat) : Int) := by rw [Int.tmod_eq_emod_of_nonneg (by omega)]; omega
   refine Ev.step (fun k => by rw [spec_l01Dec.f]) ?_
   simp only [if_neg (show ¬ (u : Int) < 0 by omega), if_neg (show ¬ (u : Int) < 10 by omega), ed, em]
   rw [wrap_id (x := ((u / 10 : Nat) : Int)) (by omega) (by omega), bnd hr, wrap_id (x := 48 + ((u % 10 : Nat) : Int)) (by omega) (by omega)]
   have hs : (⟨(Go.Lib.decDigits (u / 10)).toArray⟩ : ByteArray).size ≤ 20 := by
    rw [Go.Lib.size_eq]
    show (Go.Lib.decDigits (u / 10)).length ≤ 20
    rw [Go.Lib.decDigits_length]
    exact Go.Lib.nDigits_le20 _ (by omega)
   simp only [Option.bind_some, if_pos (show (⟨(Go.Lib.decDigits (u / 10)).toArray⟩ : ByteArray).size + (strOfNums [(48 + ((u % 10 : Nat) : Int)) % 256]).size ≤ 9223372036854775807 by rw [strOfNums_size, List.length_singleton]; omega)]
   refine ev_some ?_
   have hdd : Go.Lib.decDigits u = Go.Lib.decDigits (u / 10) ++ [UInt8.ofNat (48 + u % 10)] := by
    conv => lhs; rw [Go.Lib.decDigits]
    rw [dif_neg h10]
   apply ba_ext
   rw [ba_app, show (⟨(Go.Lib.decDigits u).toArray⟩ : ByteArray).data.toList = Go.Lib.decDigits u from rfl, hdd]
   show Go.Lib.decDigits (u / 10) ++ [UInt8.ofNat ((48 + ((u % 10 : Nat) : Int)) % 256).toNat] = Go.Lib.decDigits (u / 10) ++ [UInt8.ofNat (48 + u % 10)]
   rw [show ((48 + ((u % 10 : Nat) : Int)) % 256).toNat = 48 + u % 10 by omega]
theorem l01Dec_ev {n : Int} (h0 : -9223372036854775807 ≤ n) (h1 : n ≤ 9223372036854775807) : Ev (fun k => spec_l01Dec.f k n) (DT n) := by
 by_cases hn : n < 0
 ·obtain ⟨u, rfl⟩ : ∃ u : Nat, n = -(u : Int) := ⟨n.natAbs, by omega⟩
  refine Ev.step (fun k => by rw [spec_l01Dec.f]) ?_
  simp only [if_pos hn]
  rw [show wrap64 (- -(u : Int)) = (u : Int) by rw [wrap_id (by omega) (by omega)]; omega, bnd (dec_nat u u (Nat.le_refl _) (by omega))]
  have hs : (⟨(Go.Lib.decDigits u).toArray⟩ : ByteArray).size ≤ 20 := by
   rw [Go.Lib.size_eq]
   show (Go.Lib.decDigits u).length ≤ 20
   rw [Go.Lib.decDigits_length]
   exact Go.Lib.nDigits_le20 _ (by omega)
  simp only [if_pos (show 1 + (⟨(Go.Lib.decDigits u).toArray⟩ : ByteArray).size ≤ 9223372036854775807 by omega)]
  refine ev_some ?_
  apply ba_ext
  rw [ba_app]
  unfold DT
  rw [Go.Lib.itoa_neg u (by omega)]
  rfl
 ·obtain ⟨u, rfl⟩ : ∃ u : Nat, n = u := ⟨n.toNat, by omega⟩
  refine ev_eq (dec_nat u u (Nat.le_refl _) (by omega)) ?_
  unfold DT
  rw [Go.Lib.itoa_nonneg]
theorem decimal_eq {n : Int} (h0 : -9223372036854775808 ≤ n) (h1 : n ≤ 9223372036854775807) : impl_decimal.f n = some (DT n) := by
 unfold impl_decimal.f strconv_FormatInt_79.f
 rw [if_pos ⟨rfl, h0, h1⟩]
 rfl
theorem powAny_l {b : Int} (hb : 0 ≤ b ∧ b ≤ 7) : ∀ (d : Nat) (a : Int), d ≤ 1000 → 0 ≤ a → a * 7 ^ d ≤ 1000000000 → ∃ r, Ev (fun k => spec_l01Power.l0 k b d a) r ∧ 0 ≤ r ∧ r ≤ a * 7 ^ d := by
 intro d
 induction d with
 | zero =>
  intro a hd a0 a1
  refine ⟨a, Ev.step (fun k => by rw [spec_l01Power.l0]) ?_, a0, by simp⟩
  simp only [if_neg (show ¬ ((0 : Nat) : Int) > 0 by omega)]
  exact Ev.now _
 | succ d ih =>
  intro a hd a0 a1
  have hp : (1 : Int) ≤ 7 ^ d := Int.pow_pos (by omega)
  have m1 : a * b ≤ a * 7 := Int.mul_le_mul_of_nonneg_left hb.2 a0
  have m0 : 0 ≤ a * b := Int.mul_nonneg a0 hb.1
  have m2 : a * b * 7 ^ d ≤ a * 7 * 7 ^ d := Int.mul_le_mul_of_nonneg_right m1 (by omega)
  have e : a * 7 ^ (d + 1) = a * 7 * 7 ^ d := by rw [Int.pow_succ, Int.mul_comm (7 ^ d), ← Int.mul_assoc]
  have m3 : a * b * 1 ≤ a * b * 7 ^ d := Int.mul_le_mul_of_nonneg_left hp m0
  obtain ⟨r, hr, r0, r1⟩ := ih (a * b) (by omega) m0 (by omega)
  refine ⟨r, Ev.step (fun k => by rw [spec_l01Power.l0]) ?_, r0, by omega⟩
  simp only [if_pos (show ((d + 1 : Nat) : Int) > 0 by omega)]
  rw [show wrap64 (((d + 1 : Nat) : Int) - 1) = (d : Int) by rw [wrap_id (by omega) (by omega)]; omega, wrap_id (x := a * b) (by omega) (by omega)]
  exact hr
theorem powAny_ev {b e : Int} (hb : 0 ≤ b ∧ b ≤ 7) (he : 0 ≤ e ∧ e ≤ 6) : ∃ r, Ev (fun k => spec_l01Power.f k b e) r ∧ 0 ≤ r ∧ r ≤ 117649 := by
 obtain ⟨n, rfl⟩ : ∃ n : Nat, e = n := ⟨e.toNat, by omega⟩
 have h7 : (7 : Int) ^ n ≤ 7 ^ 6 := by
  obtain ⟨d, hd⟩ := Nat.le.dest (show n ≤ 6 by omega)
  rw [← hd, Int.pow_add]
  have p1 : (1 : Int) ≤ 7 ^ d := Int.pow_pos (by omega)
  have p2 : (0 : Int) < 7 ^ n := Int.pow_pos (by omega)
  have := Int.mul_le_mul_of_nonneg_left p1 (Int.le_of_lt p2)
  omega
 have e6 : (7 : Int) ^ 6 = 117649 := by decide
 obtain ⟨r, hr, r0, r1⟩ := powAny_l hb n 1 (by omega) (by omega) (by omega)
 exact ⟨r, hr, r0, by omega⟩
theorem parts_ev {l : List Int} {c h p m : Int} (hs : Src l c) (hm : 1 ≤ m ∧ m ≤ 100000000000000000) :
  ∃ n d c' h', Ev (fun k => spec_l01Parts.f k l c h p m) (n, d, c', h') ∧ Src l c' := by
 have hq : 0 ≤ mn (mx p 2) 7 ∧ mn (mx p 2) 7 ≤ 7 := by unfold mn mx; (repeat' split) <;> omega
 obtain ⟨x1, c1, h1, e1, r1, s1⟩ := next_eq (h := h) hs (show (1 : Int) ≤ 20 by omega)
 obtain ⟨x2, c2, h2, e2, r2, s2⟩ := next_eq (h := h1) s1 hm.1
 obtain ⟨n, c3, h3, e3, r3, s3⟩ := pick_eq (h := h2) (xs := [0, wrap64 (x1 - 10), wrap64 (x2 - (wrap64 (Int.tdiv m 2))), m, wrap64 (-m), wrap64 (m + 1)]) s2 (by simp) (by simp)
 obtain ⟨x4, c4, h4, e4, r4, s4⟩ := next_eq (h := h3) s3 (show (1 : Int) ≤ 30 by omega)
 obtain ⟨x5, c5, h5, e5, r5, s5⟩ := next_eq (h := h4) s4 (show (1 : Int) ≤ 6 by omega)
 obtain ⟨w1, pw1, _⟩ := powAny_ev hq (show 0 ≤ x5 ∧ x5 ≤ 6 by omega)
 obtain ⟨x6, c6, h6, e6, r6, s6⟩ := next_eq (h := h5) s5 (show (1 : Int) ≤ 4 by omega)
 obtain ⟨w2, pw2, _⟩ := powAny_ev hq (show 0 ≤ x6 ∧ x6 ≤ 6 by omega)
 obtain ⟨x7, c7, h7, e7, r7, s7⟩ := next_eq (h := h6) s6 (show (1 : Int) ≤ 9 by omega)
 obtain ⟨x8, c8, h8, e8, r8, s8⟩ := next_eq (h := h7) s7 hm.1
 obtain ⟨d, c9, h9, e9, r9, s9⟩ := pick_eq (h := h8) (xs := [1, -1, wrap64 (1 + x4), w1, wrap64 (w2 * (wrap64 (1 + x7))), x8]) s8 (by simp) (by simp)
 obtain ⟨x10, c10, h10, e10, r10, s10⟩ := next_eq (h := h9) s9 (show (1 : Int) ≤ 30 by omega)
 obtain ⟨d', c11, h11, e11, r11, s11⟩ := pick_eq (h := h10) (xs := [0, wrap64 (m + 1)]) s10 (by simp) (by simp)
 have start : ∀ z, Ev (fun k => if x10 = 0 then ((spec_l01Pick.f l c10 h10 ([0, wrap64 (m + 1)] : List Int)).bind fun bt183 => (some (n, bt183.1, bt183.2.1, bt183.2.2))) else some (n, d, c10, h10)) z → Ev (fun k => spec_l01Parts.f k l c h p m) z := by
  intro z hz
  unfold spec_l01Parts.f
  simp only [e1, e2, e3, e4, e5, Option.bind_some]
  rw [bnd pw1]
  simp only [e6, Option.bind_some]
  rw [bnd pw2]
  simp only [e7, e8, e9, e10, Option.bind_some]
  exact hz
 by_cases hz : x10 = 0
 ·refine ⟨n, d', c11, h11, start _ ?_, s11⟩
  simp only [if_pos hz, e11, Option.bind_some]
  exact Ev.now _
 ·refine ⟨n, d, c10, h10, start _ ?_, s10⟩
  simp only [if_neg hz]
  exact Ev.now _
theorem near_eq {l : List Int} {c h : Int} (hs : Src l c) : ∃ x c' h', spec_l01Near.f l c h 12 = some (x, c', h') ∧ Src l c' := by
 unfold spec_l01Near.f
 obtain ⟨x1, c1, h1, e1, r1, s1⟩ := next_eq (h := h) hs (show (1 : Int) ≤ 14 by omega)
 have ew : wrap64 ((12 : Int) + 1) = 13 := wrap_id (by omega) (by omega)
 simp only [e1, Option.bind_some, ew]
 by_cases hz : x1 = 0
 ·obtain ⟨y, c2, h2, e2, r2, s2⟩ := pick_eq (h := h1) (xs := [-1, 13, 1099511627776, -4611686018427387904]) s1 (by simp) (by simp)
  simp only [if_pos hz, e2, Option.bind_some]
  exact ⟨_, _, _, rfl, s2⟩
 ·obtain ⟨y, c2, h2, e2, r2, s2⟩ := next_eq (h := h1) s1 (show (1 : Int) ≤ 13 by omega)
  simp only [if_neg hz, e2, Option.bind_some]
  exact ⟨_, _, _, rfl, s2⟩
def PEnd (l : List UInt8) : Int × Int × Int :=
 if l = [105, 110, 102] then (1, 0, 0) else
 match spl 47 [] l with
 | [a, b] => if (SS a).2 = true ∧ 1 ≤ SN b ∧ EndOk (SS a).1 (SN b) then ((SS a).1, SN b, 0) else (0, 0, 6)
 | _ => (0, 0, 6)
theorem specParseEnd_ev {s : ByteArray} {l : List UInt8} (h : s.data.toList = l) (hl : l.length ≤ 8000000000000) : Ev (fun k => spec_ParseEnd.f k s) (PEnd l) := by
 obtain ⟨r, er, hr⟩ := split_ev (c := 47) h hl
 rw [show (((47 : UInt8).toNat : Nat) : Int) = 47 from rfl] at er
 have hrl : r.length = (spl 47 [] l).length := by rw [← hr, List.length_map]
 unfold spec_ParseEnd.f
 have key : ∃ x, Ev (fun k => spec_l01ReadEnd.f k s) x ∧ (if x.2.2 = true then (x.1, x.2.1, (0 : Int)) else (0, 0, 6)) = PEnd l := by
  unfold spec_l01ReadEnd.f PEnd
  rw [Go.Lib.toList_data, h]
  by_cases hi : l = [105, 110, 102]
  ·simp only [if_pos hi]
   exact ⟨_, Ev.now _, rfl⟩
  ·simp only [if_neg hi]
   have none_ : ∀ z, z = ((0 : Int), (0 : Int), (6 : Int)) → r.length ≠ 2 → ∃ x : Int × Int × Bool, Ev (fun k => (spec_l01Split.f k s 47).bind fun t117 => (if (t117.length : Int) = 2 then (if 0 < (t117.length : Int) then ((spec_l01Signed.f k (rdOf ByteArray.empty t117 0)).bind fun bt121 => (if 1 < (t117.length : Int) then ((spec_l01Number.f k (rdOf ByteArray.empty t117 1)).bind fun t124 => (if bt121.2 = true then (if t124 < 1 then (some (0, 0, false)) else ((spec_l01End.f k bt121.1 t124).bind fun t126 => (if t126 = true then (some (bt121.1, t124, true)) else (some (0, 0, false))))) else (some (0, 0, false)))) else (none))) else (none)) else (some (0, 0, false)))) x ∧ (if x.2.2 = true then (x.1, x.2.1, (0 : Int)) else (0, 0, 6)) = z := by
    intro z hz h2
    refine ⟨(0, 0, false), ?_, by rw [hz]; rfl⟩
    rw [bnd er]
    simp only [if_neg (show ¬ (r.length : Int) = 2 by omega)]
    exact Ev.now _
   match hsp : spl 47 [] l, hrl with
   | [], hrl => exact none_ _ rfl (by simp only [List.length_cons, List.length_nil] at hrl; omega)
   | [a], hrl => exact none_ _ rfl (by simp only [List.length_cons, List.length_nil] at hrl; omega)
   | a :: b :: c :: d, hrl => exact none_ _ rfl (by simp only [List.length_cons, List.length_nil] at hrl; omega)
   | [a, b], hrl =>
    rw [hsp] at hr
    obtain ⟨x, y, rfl, hx, hy⟩ := two_pieces hr
    dsimp only
    have e0 : rdOf ByteArray.empty [x, y] 0 = x := rfl
    have e1 : rdOf ByteArray.empty [x, y] 1 = y := rfl
    by_cases hok : (SS a).2 = true ∧ 1 ≤ SN b ∧ EndOk (SS a).1 (SN b)
    ·refine ⟨((SS a).1, SN b, true), ?_, by rw [if_pos hok]; rfl⟩
     rw [bnd er]
     simp only [show (([x, y] : List ByteArray).length : Int) = 2 from rfl, if_true, if_pos (show (0 : Int) < 2 by omega), if_pos (show (1 : Int) < 2 by omega), e0, e1]
     rw [bnd (l01Signed_ev hx), bnd (l01Number_ev hy)]
     simp only [if_pos hok.1, if_neg (show ¬ SN b < 1 by omega)]
     rw [bnd l01End_ev]
     simp only [decide_eq_true hok.2.2, if_true]
     exact Ev.now _
    ·refine ⟨(0, 0, false), ?_, by rw [if_neg hok]; rfl⟩
     rw [bnd er]
     simp only [show (([x, y] : List ByteArray).length : Int) = 2 from rfl, if_true, if_pos (show (0 : Int) < 2 by omega), if_pos (show (1 : Int) < 2 by omega), e0, e1]
     rw [bnd (l01Signed_ev hx), bnd (l01Number_ev hy)]
     by_cases h1 : (SS a).2 = true
     ·simp only [if_pos h1]
      by_cases h2 : SN b < 1
      ·simp only [if_pos h2]; exact Ev.now _
      ·simp only [if_neg h2]
       rw [bnd l01End_ev]
       have h3 : ¬ EndOk (SS a).1 (SN b) := fun z => hok ⟨h1, by omega, z⟩
       simp only [decide_eq_false h3, if_neg Bool.false_ne_true]
       exact Ev.now _
     ·simp only [if_neg h1]; exact Ev.now _
 obtain ⟨x, ex, hx⟩ := key
 rw [bnd ex, ← hx]
 by_cases hz : x.2.2 = true
 ·simp only [if_pos hz]; exact Ev.now _
 ·simp only [if_neg hz]; exact Ev.now _
theorem end_small {n d : Int} (h : EndOk n d) : -1000000 ≤ n ∧ n ≤ 1000000 ∧ d ≤ 1000000 ∧ (d = 0 ∨ 1 ≤ d) := by
 unfold EndOk at h
 split at h <;> omega
theorem implParseEnd_ev {s : ByteArray} {l : List UInt8} (h : s.data.toList = l) (hl : l.length ≤ 8000000000000) : Ev (fun k => impl_ParseEnd.f k s) (PEnd l) := by
 obtain ⟨r, er, hr⟩ := cut_ev (c := 47) h hl
 unfold impl_ParseEnd.f
 rw [Go.Lib.toList_data, h]
 by_cases hi : l = [105, 110, 102]
 ·simp only [if_pos hi]
  refine ev_some ?_
  unfold PEnd; rw [if_pos hi]
 ·simp only [if_neg hi]
  rw [bnd er]
  -- what the two pieces tell
  have go : ∀ a b : List UInt8, r.1.data.toList = a → r.2.1.data.toList = b → ((IN 9 a).2 = true ∧ (IN 9 b).2 = true ∧ (IN 9 b).1 ≠ 0 ∧ EndOk (IN 9 a).1 (IN 9 b).1 → PEnd l = ((IN 9 a).1, (IN 9 b).1, 0)) →
    (¬ ((IN 9 a).2 = true ∧ (IN 9 b).2 = true ∧ (IN 9 b).1 ≠ 0 ∧ EndOk (IN 9 a).1 (IN 9 b).1) → PEnd l = (0, 0, 6)) →
    Ev (fun k => (impl_number.f k r.1 9).bind fun bt156 => ((impl_number.f k r.2.1 9).bind fun bt158 => (if bt156.2 = true then (if bt158.2 = true then (if bt158.1 = 0 then (some (0, 0, 6)) else ((impl_IsEnd.f k bt156.1 bt158.1).bind fun t161 => (if t161 = true then (some (bt156.1, bt158.1, 0)) else (some (0, 0, 6))))) else (some (0, 0, 6))) else (some (0, 0, 6))))) (PEnd l) := by
   intro a b ha hb hy hn
   rw [bnd (number_ev ha (by omega)), bnd (number_ev hb (by omega))]
   by_cases h1 : (IN 9 a).2 = true
   ·simp only [if_pos h1]
    by_cases h2 : (IN 9 b).2 = true
    ·simp only [if_pos h2]
     by_cases h3 : (IN 9 b).1 = 0
     ·simp only [if_pos h3]
      exact ev_some (hn (fun z => z.2.2.1 h3)).symm
     ·simp only [if_neg h3]
      rw [bnd IsEnd_ev]
      by_cases h4 : EndOk (IN 9 a).1 (IN 9 b).1
      ·simp only [decide_eq_true h4, if_true]
       exact ev_some (hy ⟨h1, h2, h3, h4⟩).symm
      ·simp only [decide_eq_false h4, if_neg Bool.false_ne_true]
       exact ev_some (hn (fun z => h4 z.2.2.2)).symm
    ·simp only [if_neg h2]
     exact ev_some (hn (fun z => h2 z.2.1)).symm
   ·simp only [if_neg h1]
    exact ev_some (hn (fun z => h1 z.1)).symm
  rcases hr with ⟨hc, ha, hb⟩ | ⟨a, b, hab, hna, ha, hb⟩
  ·have hP : PEnd l = (0, 0, 6) := by unfold PEnd; rw [if_neg hi, spl_no l [] hc]
   refine go l [] ha hb (fun z => ?_) (fun _ => hP)
   exact absurd z.2.1 (by decide)
  ·by_cases hcb : (47 : UInt8) ∈ b
   ·have hP : PEnd l = (0, 0, 6) := by
     unfold PEnd
     rw [if_neg hi, hab, spl_at b a [] hna]
     have h2 := spl_two hcb
     match hs : spl 47 [] b, h2 with
     | x :: y :: t, _ => rfl
     | [x], h2 => simp at h2
     | [], h2 => simp at h2
    refine go a b ha hb (fun z => ?_) (fun _ => hP)
    have := IN_no (m := 9) hcb (by decide) (by decide)
    rw [this] at z; exact absurd z.2.1 (by simp)
   ·have hsp : spl 47 [] l = [a, b] := by rw [hab, spl_at b a [] hna, spl_no b [] hcb, List.nil_append, List.nil_append]
    refine go a b ha hb (fun z => ?_) (fun z => ?_)
    ·obtain ⟨z1, z2, z3, z4⟩ := z
     have ea : IN ((9 : Nat) : Int) a = ((IN 9 a).1, true) := by rw [← z1]; rfl
     have eb : IN ((9 : Nat) : Int) b = ((IN 9 b).1, true) := by rw [← z2]; rfl
     have hsm := end_small z4
     have sa := IN_SS (by omega) ea
     have sb := IN_SN (by omega) eb (by omega)
     unfold PEnd
     rw [if_neg hi, hsp]
     dsimp only
     rw [sa, sb, if_pos ⟨rfl, by omega, z4⟩]
    ·unfold PEnd
     rw [if_neg hi, hsp]
     dsimp only
     by_cases hok : (SS a).2 = true ∧ 1 ≤ SN b ∧ EndOk (SS a).1 (SN b)
     ·exfalso
      obtain ⟨k1, k2, k3⟩ := hok
      have hsm := end_small k3
      have e9 : (10 : Int) ^ 9 = 1000000000 := by decide
      have ea := SS_IN (m := 9) (by omega) (l := a) (v := (SS a).1) (by rw [← k1]) (by omega) (by omega)
      have eb := SS_IN (m := 9) (by omega) (SN_SS (l := b) (by omega)) (by rw [e9]; omega) (by rw [e9]; omega)
      rw [show (((9 : Nat) : Int)) = 9 from rfl] at ea eb
      exact z (by rw [ea, eb]; exact ⟨rfl, rfl, (show SN b ≠ 0 by omega), k3⟩)
     ·rw [if_neg hok]
def PBall (p : Int) (l : List UInt8) : Int × Int × Int × Int :=
 match spl 64 [] l with
 | [x, y] => (match spl 46 [] x with
  | [a, b] => if (SS y).2 = true ∧ Bal p (SS y).1 (SN a) (SN b) then ((SS y).1, SN a, SN b, 0) else (0, 0, 0, 6)
  | _ => (0, 0, 0, 6))
 | _ => (0, 0, 0, 6)
theorem PBall_of {p : Int} {a b y : List UInt8} (h46a : (46 : UInt8) ∉ a) (h46b : (46 : UInt8) ∉ b) (h64a : (64 : UInt8) ∉ a) (h64b : (64 : UInt8) ∉ b) (h64y : (64 : UInt8) ∉ y) :
  PBall p (a ++ 46 :: (b ++ 64 :: y)) = if (SS y).2 = true ∧ Bal p (SS y).1 (SN a) (SN b) then ((SS y).1, SN a, SN b, 0) else (0, 0, 0, 6) := by
 have e : a ++ 46 :: (b ++ 64 :: y) = (a ++ 46 :: b) ++ 64 :: y := by simp
 have hx : (64 : UInt8) ∉ a ++ 46 :: b := by
  rw [List.mem_append, List.mem_cons]
  rintro (z | z | z)
  ·exact h64a z
  ·exact absurd z (by decide)
  ·exact h64b z
 have s1 : spl 64 [] (a ++ 46 :: (b ++ 64 :: y)) = [a ++ 46 :: b, y] := by rw [e, spl_at y _ [] hx, spl_no y [] h64y, List.nil_append, List.nil_append]
 have s2 : spl 46 [] (a ++ 46 :: b) = [a, b] := by rw [spl_at b a [] h46a, spl_no b [] h46b, List.nil_append, List.nil_append]
 unfold PBall
 rw [s1]
 dsimp only
 rw [s2]
theorem PBall_inv {p : Int} {l : List UInt8} (h : PBall p l ≠ (0, 0, 0, 6)) : ∃ a b y, l = a ++ 46 :: (b ++ 64 :: y) ∧ (46 : UInt8) ∉ a ∧ (64 : UInt8) ∉ b ∧ (SS y).2 = true ∧ Bal p (SS y).1 (SN a) (SN b) := by
 unfold PBall at h
 match hs : spl 64 [] l with
 | [] => rw [hs] at h; exact absurd rfl h
 | [x] => rw [hs] at h; exact absurd rfl h
 | x :: y :: z :: t => rw [hs] at h; exact absurd rfl h
 | [x, y] =>
  rw [hs] at h
  dsimp only at h
  obtain ⟨e1, n1, n2⟩ := spl_inv hs
  match ht : spl 46 [] x with
  | [] => rw [ht] at h; exact absurd rfl h
  | [a] => rw [ht] at h; exact absurd rfl h
  | a :: b :: z :: t => rw [ht] at h; exact absurd rfl h
  | [a, b] =>
   rw [ht] at h
   dsimp only at h
   obtain ⟨e2, m1, m2⟩ := spl_inv ht
   by_cases hok : (SS y).2 = true ∧ Bal p (SS y).1 (SN a) (SN b)
   ·refine ⟨a, b, y, by rw [e1, e2]; simp, m1, fun z => n1 ?_, hok.1, hok.2⟩
    rw [e2, List.mem_append, List.mem_cons]
    exact .inr (.inr z)
   ·rw [if_neg hok] at h; exact absurd rfl h
theorem SS_range (l : List UInt8) : -1000000000000 ≤ (SS l).1 ∧ (SS l).1 ≤ 1000000000000 := by
 unfold SS
 have h1 := SN_range l
 have h2 := SN_range (negT l).2
 split <;> (dsimp only; omega)
theorem specParseBall_ev {p : Int} (hp : IsP p) {s : ByteArray} {l : List UInt8} (h : s.data.toList = l) (hl : l.length ≤ 8000000000000) : Ev (fun k => spec_ParseBall.f k p s) (PBall p l) := by
 obtain ⟨r, er, hr⟩ := split_ev (c := 64) h hl
 rw [show (((64 : UInt8).toNat : Nat) : Int) = 64 from rfl] at er
 have hrl : r.length = (spl 64 [] l).length := by rw [← hr, List.length_map]
 unfold spec_ParseBall.f
 simp only [l01Prime_eq, Option.bind_some, decide_eq_true hp, if_true]
 have key : ∃ x, Ev (fun k => spec_l01Read.f k p s) x ∧ (if x.2.2.2 = true then (x.1, x.2.1, x.2.2.1, (0 : Int)) else (0, 0, 0, 6)) = PBall p l := by
  have none_ : PBall p l = (0, 0, 0, 6) → r.length ≠ 2 → ∃ x : Int × Int × Int × Bool, Ev (fun k => spec_l01Read.f k p s) x ∧ (if x.2.2.2 = true then (x.1, x.2.1, x.2.2.1, (0 : Int)) else (0, 0, 0, 6)) = PBall p l := by
   intro hz h2
   refine ⟨(0, 0, 0, false), ?_, by rw [hz]; rfl⟩
   unfold spec_l01Read.f
   rw [bnd er]
   simp only [if_neg (show ¬ (r.length : Int) = 2 by omega)]
   exact Ev.now _
  match hsp : spl 64 [] l, hrl with
  | [], hrl => exact none_ (by unfold PBall; rw [hsp]) (by simp only [List.length_cons, List.length_nil] at hrl; omega)
  | [a], hrl => exact none_ (by unfold PBall; rw [hsp]) (by simp only [List.length_cons, List.length_nil] at hrl; omega)
  | a :: b :: c :: d, hrl => exact none_ (by unfold PBall; rw [hsp]) (by simp only [List.length_cons, List.length_nil] at hrl; omega)
  | [a, b], hrl =>
   rw [hsp] at hr
   obtain ⟨x, y, rfl, hx, hy⟩ := two_pieces hr
   have hal : a.length ≤ 8000000000000 := by
    obtain ⟨e, _, _⟩ := spl_inv hsp
    rw [e, List.length_append] at hl; omega
   obtain ⟨q, eq_, hq⟩ := split_ev (c := 46) hx hal
   rw [show (((46 : UInt8).toNat : Nat) : Int) = 46 from rfl] at eq_
   have hql : q.length = (spl 46 [] a).length := by rw [← hq, List.length_map]
   have e0 : rdOf ByteArray.empty [x, y] 0 = x := rfl
   have e1 : rdOf ByteArray.empty [x, y] 1 = y := rfl
   have head : ∀ z, Ev (fun k => if (q.length : Int) = 2 then (spec_l01Read.j0 k p q (SS b).1 (!(SS b).2)) else (spec_l01Read.j0 k p q (SS b).1 true)) z → Ev (fun k => spec_l01Read.f k p s) z := by
    intro z hz
    unfold spec_l01Read.f
    rw [bnd er]
    simp only [show (([x, y] : List ByteArray).length : Int) = 2 from rfl, if_true, if_pos (show (0 : Int) < 2 by omega), if_pos (show (1 : Int) < 2 by omega), e0, e1]
    rw [bnd eq_, bnd (l01Signed_ev hy)]
    exact hz
   have bad : ∀ b', Ev (fun k => spec_l01Read.j0 k p q b' true) (0, 0, 0, false) := by
    intro b'
    refine Ev.step (fun k => by rw [spec_l01Read.j0]) ?_
    simp only [if_true]; exact Ev.now _
   have none2 : PBall p l = (0, 0, 0, 6) → q.length ≠ 2 → ∃ x : Int × Int × Int × Bool, Ev (fun k => spec_l01Read.f k p s) x ∧ (if x.2.2.2 = true then (x.1, x.2.1, x.2.2.1, (0 : Int)) else (0, 0, 0, 6)) = PBall p l := by
    intro hz h2
    refine ⟨(0, 0, 0, false), head _ ?_, by rw [hz]; rfl⟩
    simp only [if_neg (show ¬ (q.length : Int) = 2 by omega)]
    exact bad _
   match hsq : spl 46 [] a, hql with
   | [], hql => exact none2 (by unfold PBall; rw [hsp]; dsimp only; rw [hsq]) (by simp only [List.length_cons, List.length_nil] at hql; omega)
   | [u], hql => exact none2 (by unfold PBall; rw [hsp]; dsimp only; rw [hsq]) (by simp only [List.length_cons, List.length_nil] at hql; omega)
   | u :: v :: c :: d, hql => exact none2 (by unfold PBall; rw [hsp]; dsimp only; rw [hsq]) (by simp only [List.length_cons, List.length_nil] at hql; omega)
   | [u, v], hql =>
    rw [hsq] at hq
    obtain ⟨x', y', rfl, hx', hy'⟩ := two_pieces hq
    have f0 : rdOf ByteArray.empty [x', y'] 0 = x' := rfl
    have f1 : rdOf ByteArray.empty [x', y'] 1 = y' := rfl
    have hP : PBall p l = if (SS b).2 = true ∧ Bal p (SS b).1 (SN u) (SN v) then ((SS b).1, SN u, SN v, 0) else (0, 0, 0, 6) := by
     unfold PBall; rw [hsp]; dsimp only; rw [hsq]
    have r1 := SS_range b
    have r2 := SN_range v
    rw [hP]
    by_cases h1 : (SS b).2 = true
    ·by_cases h2 : Bal p (SS b).1 (SN u) (SN v)
     ·refine ⟨((SS b).1, SN u, SN v, true), head _ ?_, by show ((SS b).1, SN u, SN v, (0 : Int)) = _; rw [if_pos ⟨h1, h2⟩]⟩
      simp only [show (([x', y'] : List ByteArray).length : Int) = 2 from rfl, if_true, h1, Bool.not_true]
      refine Ev.step (fun k => by rw [spec_l01Read.j0]) ?_
      simp only [if_neg Bool.false_ne_true, show (([x', y'] : List ByteArray).length : Int) = 2 from rfl, if_pos (show (0 : Int) < 2 by omega), if_pos (show (1 : Int) < 2 by omega), f0, f1]
      rw [bnd (l01Number_ev hx'), bnd (l01Number_ev hy'), bnd (l01Is_ev (by omega) (by omega))]
      simp only [decide_eq_true (show IsP p ∧ Bal p (SS b).1 (SN u) (SN v) from ⟨hp, h2⟩), if_true]
      exact Ev.now _
     ·refine ⟨(0, 0, 0, false), head _ ?_, by show ((0 : Int), (0 : Int), (0 : Int), (6 : Int)) = _; rw [if_neg (fun z => h2 z.2)]⟩
      simp only [show (([x', y'] : List ByteArray).length : Int) = 2 from rfl, if_true, h1, Bool.not_true]
      refine Ev.step (fun k => by rw [spec_l01Read.j0]) ?_
      simp only [if_neg Bool.false_ne_true, show (([x', y'] : List ByteArray).length : Int) = 2 from rfl, if_pos (show (0 : Int) < 2 by omega), if_pos (show (1 : Int) < 2 by omega), f0, f1]
      rw [bnd (l01Number_ev hx'), bnd (l01Number_ev hy'), bnd (l01Is_ev (by omega) (by omega))]
      simp only [decide_eq_false (show ¬ (IsP p ∧ Bal p (SS b).1 (SN u) (SN v)) from fun z => h2 z.2), if_neg Bool.false_ne_true]
      exact Ev.now _
    ·refine ⟨(0, 0, 0, false), head _ ?_, by show ((0 : Int), (0 : Int), (0 : Int), (6 : Int)) = _; rw [if_neg (fun z => h1 z.1)]⟩
     have h1' : (SS b).2 = false := by simpa using h1
     simp only [show (([x', y'] : List ByteArray).length : Int) = 2 from rfl, if_true, h1', Bool.not_false]
     exact bad _
 obtain ⟨x, ex, hx⟩ := key
 rw [bnd ex, ← hx]
 by_cases hz : x.2.2.2 = true
 ·simp only [if_pos hz]; exact Ev.now _
 ·simp only [if_neg hz]; exact Ev.now _
theorem IN_nil (m : Int) : (IN m []).2 = false := rfl
theorem implParseBall_ev {p : Int} (hp : IsP p) {s : ByteArray} {l : List UInt8} (h : s.data.toList = l) (hl : l.length ≤ 8000000000000) : Ev (fun k => impl_ParseBall.f k p s) (PBall p l) := by
 obtain ⟨r, er, hr⟩ := cut_ev (c := 46) h hl
 have hl2 : r.2.1.data.toList.length ≤ 8000000000000 := by
  rcases hr with ⟨_, _, hb⟩ | ⟨a, b, hab, _, _, hb⟩
  ·rw [hb]; simp
  ·rw [hb]; rw [hab, List.length_append, List.length_cons] at hl; omega
 obtain ⟨q, eq_, hq⟩ := cut_ev (c := 64) (rfl : r.2.1.data.toList = r.2.1.data.toList) hl2
 unfold impl_ParseBall.f
 simp only [isPrime_eq, Option.bind_some, decide_eq_true hp, if_true]
 rw [bnd er, bnd eq_, bnd (number_ev rfl (by omega)), bnd (number_ev rfl (by omega)), bnd (number_ev rfl (by omega))]
 generalize ha : r.1.data.toList = a
 generalize hb : q.1.data.toList = b
 generalize hy : q.2.1.data.toList = y
 have ra := IN_range (show (12 : Int) ≤ 12 by omega) a
 have rb := IN_range (show (2 : Int) ≤ 12 by omega) b
 have ry := IN_range (show (2 : Int) ≤ 12 by omega) y
 -- the way that answers a ball
 have yes : (IN 12 a).2 = true → (IN 2 b).2 = true → (IN 2 y).2 = true → Bal p (IN 2 y).1 (IN 12 a).1 (IN 2 b).1 → PBall p l = ((IN 2 y).1, (IN 12 a).1, (IN 2 b).1, 0) := by
  intro h1 h2 h3 h4
  have hs := Bal.sm hp h4
  have n64 : ∀ {m : Int} {z : List UInt8}, (IN m z).2 = true → (64 : UInt8) ∉ z := fun {m z} hz hc => by
   have := IN_no (m := m) hc (by decide) (by decide)
   rw [hz] at this; exact absurd this (by simp)
  have n46 : ∀ {m : Int} {z : List UInt8}, (IN m z).2 = true → (46 : UInt8) ∉ z := fun {m z} hz hc => by
   have := IN_no (m := m) hc (by decide) (by decide)
   rw [hz] at this; exact absurd this (by simp)
  have ey : IN ((2 : Nat) : Int) y = ((IN 2 y).1, true) := by rw [← h3]; rfl
  have sy := IN_SS (by omega) ey
  have sa := IN_SN_small (v := (IN 12 a).1) (by rw [← h1] : IN 12 a = ((IN 12 a).1, true)) (by omega) (by omega)
  have sb := IN_SN_small (v := (IN 2 b).1) (by rw [← h2] : IN 2 b = ((IN 2 b).1, true)) (by omega) (by omega)
  rcases hr with ⟨_, _, hb0⟩ | ⟨a', b', hab, _, ha', hb'⟩
  ·rcases hq with ⟨_, hb1, _⟩ | ⟨x, z, hxz, _, _, _⟩
   ·rw [hb0] at hb1; rw [hb1] at hb; rw [← hb, IN_nil] at h2; exact absurd h2 (by simp)
   ·rw [hb0] at hxz; exact absurd hxz (by simp)
  ·rcases hq with ⟨_, _, hy1⟩ | ⟨x, z, hxz, _, hx', hz'⟩
   ·rw [hy1] at hy; rw [← hy, IN_nil] at h3; exact absurd h3 (by simp)
   ·have e1 : a' = a := by rw [← ha', ha]
    have e2 : x = b := by rw [← hx', hb]
    have e3 : z = y := by rw [← hz', hy]
    rw [hb'] at hxz
    subst e1; subst e2; subst e3
    rw [hab, hxz, PBall_of (n46 h1) (n46 h2) (n64 h1) (n64 h2) (n64 h3), sy, sa, sb, if_pos ⟨rfl, h4⟩]
 have no : ¬ ((IN 12 a).2 = true ∧ (IN 2 b).2 = true ∧ (IN 2 y).2 = true ∧ Bal p (IN 2 y).1 (IN 12 a).1 (IN 2 b).1) → PBall p l = (0, 0, 0, 6) := by
  intro hno
  by_cases hz : PBall p l = (0, 0, 0, 6)
  ·exact hz
  ·exfalso
   obtain ⟨a', b', y', e, n1, n2, k1, k2⟩ := PBall_inv hz
   have hs := Bal.sm hp k2
   have e12 : (10 : Int) ^ 12 = 1000000000000 := by decide
   have e2 : (10 : Int) ^ 2 = 100 := by decide
   have ia := SS_IN (m := 12) (by omega) (SN_SS (l := a') (by omega)) (by rw [e12]; omega) (by rw [e12]; omega)
   have ib := SS_IN (m := 2) (by omega) (SN_SS (l := b') (by omega)) (by rw [e2]; omega) (by rw [e2]; omega)
   have iy := SS_IN (m := 2) (by omega) (l := y') (v := (SS y').1) (by rw [← k1]) (by rw [e2]; omega) (by rw [e2]; omega)
   rw [show (((12 : Nat) : Int)) = 12 from rfl] at ia
   rw [show (((2 : Nat) : Int)) = 2 from rfl] at ib iy
   rcases hr with ⟨hn, _, _⟩ | ⟨a2, b2, hab, hn, ha2, hb2⟩
   ·exact hn (by rw [e]; simp)
   ·obtain ⟨u1, u2⟩ := first_uniq (hab.symm.trans e) hn n1
    subst u1
    rcases hq with ⟨hn', _, _⟩ | ⟨x, z, hxz, hn', hx', hz'⟩
    ·exact hn' (by rw [hb2, u2]; simp)
    ·rw [hb2, u2] at hxz
     obtain ⟨v1, v2⟩ := first_uniq hxz n2 hn'
     have f1 : a = a2 := by rw [← ha, ha2]
     have f2 : b = b' := by rw [← hb, hx', v1]
     have f3 : y = y' := by rw [← hy, hz', v2]
     subst f1; subst f2; subst f3
     exact hno (by rw [ia, ib, iy]; exact ⟨rfl, rfl, rfl, k2⟩)
 by_cases h1 : (IN 12 a).2 = true
 ·simp only [if_pos h1]
  by_cases h2 : (IN 2 b).2 = true
  ·simp only [if_pos h2]
   by_cases h3 : (IN 2 y).2 = true
   ·simp only [if_pos h3]
    rw [bnd (IsBall_ev (by omega) (by omega))]
    by_cases h4 : Bal p (IN 2 y).1 (IN 12 a).1 (IN 2 b).1
    ·simp only [decide_eq_true (show IsP p ∧ Bal p (IN 2 y).1 (IN 12 a).1 (IN 2 b).1 from ⟨hp, h4⟩), if_true]
     exact ev_some (yes h1 h2 h3 h4).symm
    ·simp only [decide_eq_false (show ¬ (IsP p ∧ Bal p (IN 2 y).1 (IN 12 a).1 (IN 2 b).1) from fun z => h4 z.2), if_neg Bool.false_ne_true]
     exact ev_some (no (fun z => h4 z.2.2.2)).symm
   ·simp only [if_neg h3]
    exact ev_some (no (fun z => h3 z.2.2.1)).symm
  ·simp only [if_neg h2]
   exact ev_some (no (fun z => h2 z.2.1)).symm
 ·simp only [if_neg h1]
  exact ev_some (no (fun z => h1 z.1)).symm
theorem end_bounds {n d : Int} (h : EndOk n d) : (-2000000 ≤ n ∧ n ≤ 2000000) ∧ -2000000 ≤ d ∧ d ≤ 2000000 := by
 unfold EndOk at h
 split at h <;> omega
def ET (n d : Int) : ByteArray := if d = 0 then (⟨#[105, 110, 102]⟩ : ByteArray) else (DT n ++ (⟨#[47]⟩ : ByteArray)) ++ DT d
theorem ET_sizes {n d : Int} (hn : -2000000 ≤ n ∧ n ≤ 2000000) (hd : -2000000 ≤ d ∧ d ≤ 2000000) : (DT n).size + 1 ≤ 9223372036854775807 ∧ (DT n ++ (⟨#[47]⟩ : ByteArray)).size + (DT d).size ≤ 9223372036854775807 := by
 have h1 := DT_size (n := n) (by omega) (by omega)
 have h2 := DT_size (n := d) (by omega) (by omega)
 have h3 : (⟨#[47]⟩ : ByteArray).size = 1 := rfl
 rw [ByteArray.size_append, h3]
 omega
theorem specET_ev {n d : Int} (hn : -2000000 ≤ n ∧ n ≤ 2000000) (hd : -2000000 ≤ d ∧ d ≤ 2000000) : Ev (fun k => spec_l01EndText.f k n d) (ET n d) := by
 unfold spec_l01EndText.f ET
 by_cases hz : d = 0
 ·simp only [if_pos hz]; exact Ev.now _
 ·obtain ⟨s1, s2⟩ := ET_sizes hn hd
  simp only [if_neg hz]
  rw [bnd (l01Dec_ev (by omega) (by omega))]
  simp only [if_pos s1]
  rw [bnd (l01Dec_ev (by omega) (by omega))]
  simp only [if_pos s2]
  exact Ev.now _
theorem implET_eq {n d : Int} (hn : -2000000 ≤ n ∧ n ≤ 2000000) (hd : -2000000 ≤ d ∧ d ≤ 2000000) : impl_endText.f n d = some (ET n d) := by
 unfold impl_endText.f ET
 by_cases hz : d = 0
 ·simp only [if_pos hz]
 ·obtain ⟨s1, s2⟩ := ET_sizes hn hd
  simp only [if_neg hz, decimal_eq (show -9223372036854775808 ≤ n by omega) (show n ≤ 9223372036854775807 by omega), decimal_eq (show -9223372036854775808 ≤ d by omega) (show d ≤ 9223372036854775807 by omega), Option.bind_some, if_pos s1, if_pos s2]
def BT (l t d : Int) : ByteArray := (((DT t ++ (⟨#[46]⟩ : ByteArray)) ++ DT d) ++ (⟨#[64]⟩ : ByteArray)) ++ DT l
def Fit (x : Int) : Prop := -9223372036854775807 ≤ x ∧ x ≤ 9223372036854775807
theorem BT_sizes {l t d : Int} (hl : Fit l) (ht : Fit t) (hd : Fit d) : (DT t).size + 1 ≤ 9223372036854775807 ∧ (DT t ++ (⟨#[46]⟩ : ByteArray)).size + (DT d).size ≤ 9223372036854775807 ∧
  ((DT t ++ (⟨#[46]⟩ : ByteArray)) ++ DT d).size + 1 ≤ 9223372036854775807 ∧ (((DT t ++ (⟨#[46]⟩ : ByteArray)) ++ DT d) ++ (⟨#[64]⟩ : ByteArray)).size + (DT l).size ≤ 9223372036854775807 := by
 unfold Fit at hl ht hd
 have h1 := DT_size (n := t) (by omega) (by omega)
 have h2 := DT_size (n := d) (by omega) (by omega)
 have h3 := DT_size (n := l) (by omega) (by omega)
 have h4 : (⟨#[46]⟩ : ByteArray).size = 1 := rfl
 have h5 : (⟨#[64]⟩ : ByteArray).size = 1 := rfl
 simp only [ByteArray.size_append, h4, h5]
 omega
theorem specBT_ev {p l t d : Int} (hl : Fit l) (ht : Fit t) (hd : Fit d) : Ev (fun k => spec_l01Text.f k p l t d) (BT l t d) := by
 obtain ⟨s1, s2, s3, s4⟩ := BT_sizes hl ht hd
 unfold spec_l01Text.f BT
 rw [bnd (l01Dec_ev ht.1 ht.2)]
 simp only [if_pos s1]
 rw [bnd (l01Dec_ev hd.1 hd.2)]
 simp only [if_pos s2, if_pos s3]
 rw [bnd (l01Dec_ev hl.1 hl.2)]
 simp only [if_pos s4]
 exact Ev.now _
theorem implBT_eq {l t d : Int} (hl : Fit l) (ht : Fit t) (hd : Fit d) : impl_ballText.f l t d = some (BT l t d) := by
 obtain ⟨s1, s2, s3, s4⟩ := BT_sizes hl ht hd
 unfold Fit at hl ht hd
 unfold impl_ballText.f BT
 simp only [decimal_eq (show -9223372036854775808 ≤ t by omega) ht.2, decimal_eq (show -9223372036854775808 ≤ d by omega) hd.2, decimal_eq (show -9223372036854775808 ≤ l by omega) hl.2, Option.bind_some, if_pos s1, if_pos s2, if_pos s3, if_pos s4]
def lcgS (h : Nat) : Nat := (h * 6364136223846793005 + 1442695040888963407) % 18446744073709551616
def lcgN : Nat → Nat → Nat
 | 0, h => h
 | n + 1, h => lcgS (lcgN n h)
def lcgC : Nat → Nat × Nat
 | 0 => (6364136223846793005, 1442695040888963407)
 | j + 1 => ((lcgC j).1 * (lcgC j).1 % 18446744073709551616, ((lcgC j).1 * (lcgC j).2 + (lcgC j).2) % 18446744073709551616)
theorem lcgN_add (m n h : Nat) : lcgN (m + n) h = lcgN m (lcgN n h) := by
 induction m with
 | zero => rw [Nat.zero_add]; rfl
 | succ m ih => rw [Nat.succ_add]; show lcgS _ = lcgS _; rw [ih]
theorem lcgN_pow : ∀ j h, lcgN (2 ^ j) h = (h * (lcgC j).1 + (lcgC j).2) % 18446744073709551616
 | 0, h => rfl
 | j + 1, h => by
  rw [Nat.pow_succ, Nat.mul_two, lcgN_add, lcgN_pow j, lcgN_pow j]
  show _ = (h * ((lcgC j).1 * (lcgC j).1 % 18446744073709551616) + ((lcgC j).1 * (lcgC j).2 + (lcgC j).2) % 18446744073709551616) % 18446744073709551616
  generalize (lcgC j).1 = a
  generalize (lcgC j).2 = b
  rw [Nat.add_mod (((h * a + b) % _) * a), Nat.mul_mod, Nat.mod_mod, ← Nat.mul_mod, ← Nat.add_mod]
  rw [Nat.add_mod (h * (a * a % _)), Nat.mul_mod h, Nat.mod_mod, ← Nat.mul_mod, Nat.mod_mod, ← Nat.add_mod]
  congr 1
  rw [Nat.add_mul, Nat.mul_assoc, Nat.mul_comm b a, Nat.add_assoc]
theorem lcgC_low : ∀ j, j < 15 → (lcgC j).1 % 2 ^ (j + 1) = 1 ∧ (lcgC j).2 % 2 ^ (j + 1) = 2 ^ j := by decide
theorem lcgC_40 : lcgC 40 = (8598326064743186433, 6294630401738539008) := by decide
theorem lcgN_M (h : Nat) : lcgN 1099511627776 h = (h * 8598326064743186433 + 6294630401738539008) % 18446744073709551616 := by
 have := lcgN_pow 40 h
 rw [lcgC_40] at this
 exact this
theorem lcg_reach : ∀ k, k ≤ 15 → ∀ h r, ∃ n, n < 2 ^ k ∧ lcgN n h % 2 ^ k = r % 2 ^ k
 | 0, _, h, r => ⟨0, by decide, by rw [Nat.pow_zero, Nat.mod_one, Nat.mod_one]⟩
 | k + 1, hk, h, r => by
  obtain ⟨n, h1, h2⟩ := lcg_reach k (by omega) h r
  by_cases e : lcgN n h % 2 ^ (k + 1) = r % 2 ^ (k + 1)
  ·exact ⟨n, by rw [Nat.pow_succ]; omega, e⟩
  ·refine ⟨2 ^ k + n, by rw [Nat.pow_succ]; omega, ?_⟩
   rw [lcgN_add, lcgN_pow]
   obtain ⟨l1, l2⟩ := lcgC_low k (by omega)
   rw [Nat.mod_mod_of_dvd _ (show 2 ^ (k + 1) ∣ 18446744073709551616 from ⟨2 ^ (63 - k), by rw [← Nat.pow_add, show k + 1 + (63 - k) = 64 by omega]⟩)]
   rw [Nat.add_mod, Nat.mul_mod, l1, l2, Nat.mul_one, Nat.mod_mod]
   rw [Nat.pow_succ] at e ⊢
   generalize lcgN n h = x at *
   generalize hP : 2 ^ k = P at *
   have hP0 : 0 < P := by rw [← hP]; exact Nat.two_pow_pos k
   have q : ∀ y, y % (P * 2) = y % P ∨ y % (P * 2) = y % P + P := by
    intro y
    have a1 := Nat.mod_mul_right_mod y P 2
    have a2 : y % (P * 2) = y % P + P * (y / P % 2) := Nat.mod_mul
    rcases Nat.mod_two_eq_zero_or_one (y / P) with z | z <;> rw [z] at a2 <;> omega
   have ux := q x
   have ur := q r
   have lx := Nat.mod_lt x hP0
   rcases ux with ux | ux <;> rcases ur with ur | ur <;> rw [ux] <;> rw [ux, ur, h2] at e <;> rw [ur, ← h2]
   ·exact absurd rfl e
   ·exact Nat.mod_eq_of_lt (by omega)
   ·rw [Nat.add_assoc, show P + P = P * 2 by omega, Nat.add_mod_right]; exact Nat.mod_eq_of_lt (by omega)
   ·exact absurd rfl e
def ldr (h : Nat) : Nat := h / 8388608 % 17179869184
theorem ldr_shift {h v c : Nat} : ldr ((h + 144115188075855872 * v + 1099511627776 * c) % 18446744073709551616) = (ldr h + 131072 * c) % 17179869184 := by
 unfold ldr
 rw [show h + 144115188075855872 * v + 1099511627776 * c = h + 8388608 * (17179869184 * v + 131072 * c) by omega]
 rw [show (18446744073709551616 : Nat) = 8388608 * 2199023255552 from rfl, Nat.mod_mul_right_div_self, Nat.mod_mod_of_dvd _ (show (17179869184 : Nat) ∣ 2199023255552 from ⟨128, rfl⟩), Nat.add_mul_div_left _ _ (by decide)]
 rw [show h / 8388608 + (17179869184 * v + 131072 * c) = h / 8388608 + 131072 * c + 17179869184 * v by omega, Nat.add_mul_mod_self_left]
 omega
theorem ldr_10274 {h : Nat} (e : h % 32768 = 10274) : ldr (lcgN 1099511627776 h) = (ldr h + 131072 * 3661) % 17179869184 := by
 rw [lcgN_M, show h * 8598326064743186433 + 6294630401738539008 = h + 144115188075855872 * (1955033 * (h / 32768) + 613020) + 1099511627776 * 3661 by omega, ldr_shift]
theorem ldr_28196 {h : Nat} (e : h % 32768 = 28196) : ldr (lcgN 1099511627776 h) = (ldr h + 131072 * 3349) % 17179869184 := by
 rw [lcgN_M, show h * 8598326064743186433 + 6294630401738539008 = h + 144115188075855872 * (1955033 * (h / 32768) + 1682298) + 1099511627776 * 3349 by omega, ldr_shift]
theorem ldr_22403 {h : Nat} (e : h % 32768 = 22403) : ldr (lcgN 1099511627776 h) = (ldr h + 131072 * 817) % 17179869184 := by
 rw [lcgN_M, show h * 8598326064743186433 + 6294630401738539008 = h + 144115188075855872 * (1955033 * (h / 32768) + 1336671) + 1099511627776 * 817 by omega, ldr_shift]
theorem ldr_6765 {h : Nat} (e : h % 32768 = 6765) : ldr (lcgN 1099511627776 h) = (ldr h + 131072 * 1177) % 17179869184 := by
 rw [lcgN_M, show h * 8598326064743186433 + 6294630401738539008 = h + 144115188075855872 * (1955033 * (h / 32768) + 403663) + 1099511627776 * 1177 by omega, ldr_shift]
theorem lcgN_par (n h : Nat) : lcgN n h % 2 = (h + n) % 2 := by
 induction n with
 | zero => rfl
 | succ n ih => show lcgS (lcgN n h) % 2 = _; unfold lcgS; omega
theorem lcgN_M_low (x : Nat) : lcgN 1099511627776 x % 32768 = x % 32768 := by rw [lcgN_M]; omega
theorem ldr_lt (h : Nat) : ldr h < 17179869184 := Nat.mod_lt _ (by decide)
theorem alt_step {c x y : Nat} (hs : c < 8192) (hx : x < 17179869184) (hy : y = (x + 131072 * c) % 17179869184) : y = x + 131072 * c ∨ y + 17179869184 = x + 131072 * c := by
 rcases Nat.lt_or_ge (x + 131072 * c) 17179869184 with h | h
 ·left; rw [hy, Nat.mod_eq_of_lt h]
 ·right
  rw [hy, Nat.mod_eq_sub_mod h, Nat.mod_eq_of_lt (by omega)]; omega
theorem alt_one {c x y : Nat} (hc : c % 3 = 1) (hs : c < 8192) (hx : x < 17179869184) (hy : y = (x + 131072 * c) % 17179869184) (zx : x % 3 = 0) : y % 3 ≠ 0 := by
 have := alt_step hs hx hy
 clear hy; omega
theorem alt_two {c x y z : Nat} (hc : c % 3 = 1) (hs : c < 8192) (hx : x < 17179869184) (hy : y = (x + 131072 * c) % 17179869184) (hz : z = (y + 131072 * c) % 17179869184) (zx : x % 3 = 0) (zz : z % 3 = 0) : z + 17179869184 = x + 262144 * c := by
 have h1 := alt_step hs hx hy
 have h2 := alt_step hs (hy ▸ Nat.mod_lt _ (by decide)) hz
 have h3 := ldr_lt 0
 clear hy hz; omega
theorem alt_five {c d x0 x1 x2 x3 x4 y0 y1 y2 y3 y4 : Nat} (hc : c % 3 = 1) (cs : c < 8192) (hd : d % 3 = 1) (ds : d < 8192) (hx : x0 < 17179869184) (hy : y0 < 17179869184)
  (x1e : x1 = (x0 + 131072 * c) % 17179869184) (x2e : x2 = (x1 + 131072 * c) % 17179869184) (x3e : x3 = (x2 + 131072 * c) % 17179869184) (x4e : x4 = (x3 + 131072 * c) % 17179869184)
  (y1e : y1 = (y0 + 131072 * d) % 17179869184) (y2e : y2 = (y1 + 131072 * d) % 17179869184) (y3e : y3 = (y2 + 131072 * d) % 17179869184) (y4e : y4 = (y3 + 131072 * d) % 17179869184)
  (h0 : x0 % 3 = 0 ∨ y0 % 3 = 0) (h1 : x1 % 3 = 0 ∨ y1 % 3 = 0) (h2 : x2 % 3 = 0 ∨ y2 % 3 = 0) (h3 : x3 % 3 = 0 ∨ y3 % 3 = 0) (h4 : x4 % 3 = 0 ∨ y4 % 3 = 0) : False := by
 have lt : ∀ z : Nat, z % 17179869184 < 17179869184 := fun z => Nat.mod_lt _ (by decide)
 have go : ∀ {c d x0 x1 x2 x3 x4 y0 y1 y2 y3 y4 : Nat}, c % 3 = 1 → c < 8192 → d % 3 = 1 → d < 8192 → x0 < 17179869184 → y0 < 17179869184 →
   x1 = (x0 + 131072 * c) % 17179869184 → x2 = (x1 + 131072 * c) % 17179869184 → x3 = (x2 + 131072 * c) % 17179869184 → x4 = (x3 + 131072 * c) % 17179869184 →
   y1 = (y0 + 131072 * d) % 17179869184 → y2 = (y1 + 131072 * d) % 17179869184 → y3 = (y2 + 131072 * d) % 17179869184 → y4 = (y3 + 131072 * d) % 17179869184 →
   x0 % 3 = 0 → (x1 % 3 = 0 ∨ y1 % 3 = 0) → (x2 % 3 = 0 ∨ y2 % 3 = 0) → (x3 % 3 = 0 ∨ y3 % 3 = 0) → (x4 % 3 = 0 ∨ y4 % 3 = 0) → False := by
  intro c d x0 x1 x2 x3 x4 y0 y1 y2 y3 y4 hc cs hd ds hx hy x1e x2e x3e x4e y1e y2e y3e y4e z0 h1 h2 h3 h4
  have l1 : x1 < 17179869184 := x1e ▸ lt _
  have l2 : x2 < 17179869184 := x2e ▸ lt _
  have l3 : x3 < 17179869184 := x3e ▸ lt _
  have m1 : y1 < 17179869184 := y1e ▸ lt _
  have m2 : y2 < 17179869184 := y2e ▸ lt _
  have m3 : y3 < 17179869184 := y3e ▸ lt _
  have z1 := h1.resolve_left (alt_one hc cs hx x1e z0)
  have z2 := h2.resolve_right (alt_one hd ds m1 y2e z1)
  have z3 := h3.resolve_left (alt_one hc cs l2 x3e z2)
  have z4 := h4.resolve_right (alt_one hd ds m3 y4e z3)
  have w1 := alt_two hc cs hx x1e x2e z0 z2
  have w2 := alt_two hc cs l2 x3e x4e z2 z4
  clear x1e x2e x3e x4e y1e y2e y3e y4e
  omega
 rcases h0 with h0 | h0
 ·exact go hc cs hd ds hx hy x1e x2e x3e x4e y1e y2e y3e y4e h0 h1 h2 h3 h4
 ·exact go hd ds hc cs hy hx y1e y2e y3e y4e x1e x2e x3e x4e h0 h1.symm h2.symm h3.symm h4.symm
theorem two_from {r s c d : Nat} (hr : ∀ x, x % 32768 = r → ldr (lcgN 1099511627776 x) = (ldr x + 131072 * c) % 17179869184) (hs : ∀ x, x % 32768 = s → ldr (lcgN 1099511627776 x) = (ldr x + 131072 * d) % 17179869184)
  (hrs : ∀ x, x % 32768 = r → lcgN 2 x % 32768 = s) (hc : c % 3 = 1) (cs : c < 8192) (hd : d % 3 = 1) (ds : d < 8192) {g : Nat} (hg : g % 32768 = r) :
  ∃ i, i ≤ 4 ∧ ldr (lcgN (1099511627776 * i) g) % 3 ≠ 0 ∧ ldr (lcgN (2 + 1099511627776 * i) g) % 3 ≠ 0 := by
 have low : ∀ i, lcgN (1099511627776 * i) g % 32768 = r := by
  intro i
  induction i with
  | zero => exact hg
  | succ i ih => rw [Nat.mul_succ, Nat.add_comm, lcgN_add, lcgN_M_low, ih]
 have xs : ∀ i, ldr (lcgN (1099511627776 * (i + 1)) g) = (ldr (lcgN (1099511627776 * i) g) + 131072 * c) % 17179869184 := by
  intro i; rw [Nat.mul_succ, Nat.add_comm, lcgN_add, hr _ (low i)]
 have ys : ∀ i, ldr (lcgN (2 + 1099511627776 * (i + 1)) g) = (ldr (lcgN (2 + 1099511627776 * i) g) + 131072 * d) % 17179869184 := by
  intro i
  have e : lcgN (2 + 1099511627776 * (i + 1)) g = lcgN 1099511627776 (lcgN (2 + 1099511627776 * i) g) := by rw [← lcgN_add]; congr 1; omega
  rw [e, hs _ (by rw [lcgN_add]; exact hrs _ (low i))]
 by_cases hex : ∃ i, i ≤ 4 ∧ ldr (lcgN (1099511627776 * i) g) % 3 ≠ 0 ∧ ldr (lcgN (2 + 1099511627776 * i) g) % 3 ≠ 0
 ·exact hex
 ·exfalso
  have h : ∀ i, i ≤ 4 → ldr (lcgN (1099511627776 * i) g) % 3 = 0 ∨ ldr (lcgN (2 + 1099511627776 * i) g) % 3 = 0 := by
   intro i hi
   by_cases a : ldr (lcgN (1099511627776 * i) g) % 3 = 0
   ·exact .inl a
   ·by_cases b : ldr (lcgN (2 + 1099511627776 * i) g) % 3 = 0
    ·exact .inr b
    ·exact absurd ⟨i, hi, a, b⟩ hex
  exact alt_five hc cs hd ds (ldr_lt _) (ldr_lt _) (xs 0) (xs 1) (xs 2) (xs 3) (ys 0) (ys 1) (ys 2) (ys 3) (h 0 (by decide)) (h 1 (by decide)) (h 2 (by decide)) (h 3 (by decide)) (h 4 (by decide))
theorem two_good (h : Nat) : ∃ m, m % 2 = 0 ∧ m ≤ 4398046543872 ∧ ldr (lcgN (m + 1) h) % 3 ≠ 0 ∧ ldr (lcgN (m + 3) h) % 3 ≠ 0 := by
 have fin : ∀ n i, n < 32768 → i ≤ 4 → lcgN n (lcgN 1 h) % 2 = lcgN 1 h % 2 → ldr (lcgN (1099511627776 * i) (lcgN n (lcgN 1 h))) % 3 ≠ 0 ∧ ldr (lcgN (2 + 1099511627776 * i) (lcgN n (lcgN 1 h))) % 3 ≠ 0 →
   ∃ m, m % 2 = 0 ∧ m ≤ 4398046543872 ∧ ldr (lcgN (m + 1) h) % 3 ≠ 0 ∧ ldr (lcgN (m + 3) h) % 3 ≠ 0 := by
  intro n i hn hi hp hz
  rw [lcgN_par] at hp
  refine ⟨1099511627776 * i + n, by omega, by omega, ?_, ?_⟩
  ·have := hz.1
   rwa [← lcgN_add, ← lcgN_add] at this
  ·have := hz.2
   rw [← lcgN_add, ← lcgN_add] at this
   rwa [show 2 + 1099511627776 * i + n + 1 = 1099511627776 * i + n + 3 by omega] at this
 rcases Nat.mod_two_eq_zero_or_one (lcgN 1 h) with e | e
 ·obtain ⟨n, h1, h2⟩ := lcg_reach 15 (by decide) (lcgN 1 h) 10274
  rw [show (2 : Nat) ^ 15 = 32768 from rfl] at h1 h2
  obtain ⟨i, hi, hz⟩ := two_from (r := 10274) (s := 28196) (fun x => ldr_10274) (fun x => ldr_28196) (fun x hx => by show lcgS (lcgS x) % 32768 = _; unfold lcgS; omega) (by decide) (by decide) (by decide) (by decide) h2
  exact fin n i h1 hi (by omega) hz
 ·obtain ⟨n, h1, h2⟩ := lcg_reach 15 (by decide) (lcgN 1 h) 22403
  rw [show (2 : Nat) ^ 15 = 32768 from rfl] at h1 h2
  obtain ⟨i, hi, hz⟩ := two_from (r := 22403) (s := 6765) (fun x => ldr_22403) (fun x => ldr_6765) (fun x hx => by show lcgS (lcgS x) % 32768 = _; unfold lcgS; omega) (by decide) (by decide) (by decide) (by decide) h2
  exact fin n i h1 hi (by omega) hz
theorem next_full {l : List Int} {c h n : Int} (hs : Src l c) (hn : 1 ≤ n) : ∃ x c' h', spec_l01Next.f l c h n = some (x, c', h') ∧ (0 ≤ x ∧ x < n) ∧ Src l c' ∧ c ≤ c' ∧ (c < l.length → c < c') ∧
  (c = l.length → c' = c ∧ h' = (lcgS (h % 18446744073709551616).toNat : Nat) ∧ x = ((ldr (lcgS (h % 18446744073709551616).toNat) : Nat) : Int) % n) := by
 obtain ⟨hb, c0, c1, hl⟩ := hs
 unfold spec_l01Next.f
 simp only [if_neg (show ¬ n < 1 by omega), if_neg (show ¬ n = 0 by omega)]
 have hw : ∀ y : Int, (0 ≤ IntKind.u64.wrap y / 8388608) ∧ IntKind.u64.wrap y / 8388608 < 18446744073709551616 := fun y => by rw [wrapu]; omega
 rw [mask34 (hw _).1 (hw _).2]
 have hH : IntKind.u64.wrap (IntKind.u64.wrap (h * 6364136223846793005) + 1442695040888963407) = ((lcgS (h % 18446744073709551616).toNat : Nat) : Int) := by
  rw [wrapu, wrapu]
  unfold lcgS
  have e : (((h % 18446744073709551616).toNat : Nat) : Int) = h % 18446744073709551616 := Int.toNat_of_nonneg (by omega)
  rw [Int.natCast_emod, Int.natCast_add, Int.natCast_mul, e]
  generalize hq : h / 18446744073709551616 = q
  have hd : h = 18446744073709551616 * q + h % 18446744073709551616 := by omega
  generalize h % 18446744073709551616 = z at *
  subst hd
  omega
 rw [hH]
 generalize lcgS (h % 18446744073709551616).toNat = H
 have hy : ((H : Nat) : Int) / 8388608 % 17179869184 = ((ldr H : Nat) : Int) := by unfold ldr; omega
 rw [hy]
 have hm := ldr_lt H
 generalize ldr H = y at *
 rw [wrap_id (x := (y : Int)) (by omega) (by omega)]
 by_cases hc : c < (l.length : Int)
 ·have hr := hb _ (rd_mem c0 hc)
  simp only [if_pos hc, if_pos c0]
  rw [wrap_id (x := rd l c) (by omega) (by omega), wrap_id (x := (y : Int) + rd l c) (by omega) (by omega), wrap_id (x := c + 1) (by omega) (by omega), Int.tmod_eq_emod_of_nonneg (by omega)]
  exact ⟨_, _, _, rfl, ⟨Int.emod_nonneg _ (by omega), Int.emod_lt_of_pos _ (by omega)⟩, ⟨hb, by omega, by omega, hl⟩, by omega, fun _ => by omega, fun _ => by omega⟩
 ·simp only [if_neg hc]
  rw [Int.tmod_eq_emod_of_nonneg (by omega)]
  exact ⟨_, _, _, rfl, ⟨Int.emod_nonneg _ (by omega), Int.emod_lt_of_pos _ (by omega)⟩, ⟨hb, c0, c1, hl⟩, by omega, fun _ => by omega, fun _ => ⟨rfl, rfl, rfl⟩⟩
def hNat (h : Int) : Nat := (h % 18446744073709551616).toNat
theorem lcgS_lt (x : Nat) : lcgS x < 18446744073709551616 := Nat.mod_lt _ (by decide)
theorem hNat_cast {x : Nat} (h : x < 18446744073709551616) : hNat ((x : Nat) : Int) = x := by unfold hNat; omega
theorem sign_size {x : Int} (h : 0 ≤ x ∧ x < 11) : (rdOf ByteArray.empty [(⟨#[48]⟩ : ByteArray), (⟨#[49]⟩ : ByteArray), (⟨#[55]⟩ : ByteArray), (⟨#[57]⟩ : ByteArray), (⟨#[46]⟩ : ByteArray), (⟨#[64]⟩ : ByteArray), (⟨#[47]⟩ : ByteArray), (⟨#[45]⟩ : ByteArray), (⟨#[32]⟩ : ByteArray), (⟨#[105]⟩ : ByteArray), (⟨#[10]⟩ : ByteArray)] x).size = 1 := by
 rcases (show x = 0 ∨ x = 1 ∨ x = 2 ∨ x = 3 ∨ x = 4 ∨ x = 5 ∨ x = 6 ∨ x = 7 ∨ x = 8 ∨ x = 9 ∨ x = 10 by omega) with e | e | e | e | e | e | e | e | e | e | e <;> subst e <;> rfl
theorem damage_full {l : List Int} {c h : Int} {t : ByteArray} (hs : Src l c) (ht : t.size ≤ 8000000000000) : ∃ t' c' h', spec_l01Damage.f l c h t = some (t', c', h') ∧ t'.size ≤ t.size + 1 ∧ Src l c' ∧ c ≤ c' ∧
  (c = l.length → c' = c ∧ (h' = (lcgS (hNat h) : Nat) ∨ h' = (lcgS (lcgS (lcgS (hNat h))) : Nat))) := by
 unfold spec_l01Damage.f
 simp only [Option.bind_some, show (([(⟨#[48]⟩ : ByteArray), (⟨#[49]⟩ : ByteArray), (⟨#[55]⟩ : ByteArray), (⟨#[57]⟩ : ByteArray), (⟨#[46]⟩ : ByteArray), (⟨#[64]⟩ : ByteArray), (⟨#[47]⟩ : ByteArray), (⟨#[45]⟩ : ByteArray), (⟨#[32]⟩ : ByteArray), (⟨#[105]⟩ : ByteArray), (⟨#[10]⟩ : ByteArray)] : List ByteArray).length : Int) = 11 from rfl]
 obtain ⟨x, c1, h1, e1, r1, s1, g1, _, k1⟩ := next_full (h := h) hs (show (1 : Int) ≤ 11 by omega)
 rw [e1]
 simp only [Option.bind_some, if_pos r1.1, if_pos r1.2]
 have hz := sign_size r1
 generalize rdOf ByteArray.empty [(⟨#[48]⟩ : ByteArray), (⟨#[49]⟩ : ByteArray), (⟨#[55]⟩ : ByteArray), (⟨#[57]⟩ : ByteArray), (⟨#[46]⟩ : ByteArray), (⟨#[64]⟩ : ByteArray), (⟨#[47]⟩ : ByteArray), (⟨#[45]⟩ : ByteArray), (⟨#[32]⟩ : ByteArray), (⟨#[105]⟩ : ByteArray), (⟨#[10]⟩ : ByteArray)] x = z at *
 by_cases h0 : (t.size : Int) = 0
 ·simp only [if_pos h0]
  refine ⟨z, c1, h1, rfl, by omega, s1, g1, fun hc => ?_⟩
  obtain ⟨a, b, _⟩ := k1 hc
  exact ⟨a, .inl b⟩
 ·simp only [if_neg h0]
  obtain ⟨y, c2, h2, e2, r2, s2, g2, _, k2⟩ := next_full (h := h1) s1 (show (1 : Int) ≤ (t.size : Int) by omega)
  rw [e2]
  simp only [Option.bind_some]
  obtain ⟨v, c3, h3, e3, r3, s3, g3, _, k3⟩ := next_full (h := h2) s2 (show (1 : Int) ≤ 3 by omega)
  rw [e3]
  simp only [Option.bind_some]
  have kk : c = l.length → c3 = c ∧ (h3 = (lcgS (hNat h) : Nat) ∨ h3 = (lcgS (lcgS (lcgS (hNat h))) : Nat)) := by
   intro hc
   obtain ⟨a, b, _⟩ := k1 hc
   obtain ⟨a2, b2, _⟩ := k2 (by omega)
   obtain ⟨a3, b3, _⟩ := k3 (by omega)
   refine ⟨by omega, .inr ?_⟩
   rw [b3, b2, b]
   show ((lcgS (hNat ((lcgS (hNat ((lcgS (hNat h) : Nat) : Int)) : Nat) : Int)) : Nat) : Int) = _
   rw [hNat_cast (lcgS_lt _), hNat_cast (lcgS_lt _)]
  have w1 : wrap64 (y + 1) = y + 1 := wrap_id (by omega) (by omega)
  have x1 : (t.extract 0 (y : Int).toNat).size = (y : Int).toNat := by rw [ByteArray.size_extract]; omega
  have x2 : (t.extract (y + 1 : Int).toNat t.size).size = t.size - (y + 1 : Int).toNat := by rw [ByteArray.size_extract]; omega
  have x3 : (t.extract (y : Int).toNat t.size).size = t.size - (y : Int).toNat := by rw [ByteArray.size_extract]; omega
  have hy1 : (y : Int).toNat < t.size := by omega
  rw [w1]
  simp only [if_pos r2.1, if_pos (show y ≤ (t.size : Int) by omega), if_pos (show 0 ≤ y + 1 by omega), if_pos (show y + 1 ≤ (t.size : Int) by omega), ByteArray.size_append, x1, x2, x3, hz,
   if_pos (show y.toNat + 1 ≤ 9223372036854775807 by omega), if_pos (show y.toNat + 1 + (t.size - (y + 1).toNat) ≤ 9223372036854775807 by omega), if_pos (show y.toNat + (t.size - (y + 1).toNat) ≤ 9223372036854775807 by omega), if_pos (show y.toNat + 1 + (t.size - y.toNat) ≤ 9223372036854775807 by omega)]
  by_cases v0 : v = 0
  ·simp only [if_pos v0]
   refine ⟨_, c3, h3, rfl, ?_, s3, by omega, kk⟩
   simp only [ByteArray.size_append, x1, x2, hz]; omega
  ·simp only [if_neg v0]
   by_cases v1 : v = 1
   ·simp only [if_pos v1]
    refine ⟨_, c3, h3, rfl, ?_, s3, by omega, kk⟩
    simp only [ByteArray.size_append, x1, x2]; omega
   ·simp only [if_neg v1]
    refine ⟨_, c3, h3, rfl, ?_, s3, by omega, kk⟩
    simp only [ByteArray.size_append, x1, x3, hz]; omega
theorem damages_end {α : Type} {l : List Int} {F : Nat → ByteArray → Int → Int → Option α} {ret : ByteArray → α}
  (hF : ∀ k t c h, F (k + 1) t c h = (spec_l01Next.f l c h 3).bind fun b => if b.1 = 0 then ((spec_l01Damage.f l b.2.1 b.2.2 t).bind fun d => F k d.1 d.2.1 d.2.2) else some (ret t)) {c : Int} (hs : Src l c) (hc : c = l.length) {H m : Nat} (hm : m % 2 = 0) (m1 : ldr (lcgN (m + 1) H) % 3 ≠ 0) (m3 : ldr (lcgN (m + 3) H) % 3 ≠ 0) (hH : H < 18446744073709551616) :
  ∀ (d n : Nat) (t : ByteArray), n % 2 = 0 → n + d = m + 2 → t.size + d ≤ 8000000000000 → ∃ t', Ev (fun k => F k t c ((lcgN n H : Nat) : Int)) (ret t') ∧ t'.size ≤ 8000000000000 := by
 have lt : ∀ n, lcgN n H < 18446744073709551616 := fun n => by
  cases n with
  | zero => exact hH
  | succ n => exact lcgS_lt _
 intro d
 induction d using Nat.strongRecOn with
 | _ d ih =>
  intro n t hn hd ht
  obtain ⟨x, c1, h1, e1, r1, s1, g1, _, k1⟩ := next_full (h := ((lcgN n H : Nat) : Int)) hs (show (1 : Int) ≤ 3 by omega)
  obtain ⟨rfl, b1, b2⟩ := k1 hc
  have hn1 : lcgS ((((lcgN n H : Nat) : Int) % 18446744073709551616).toNat) = lcgN (n + 1) H := by
   have := hNat_cast (lt n)
   unfold hNat at this
   rw [this]; rfl
  rw [hn1] at b1 b2
  have hst : ∀ r, Ev (fun k => if x = 0 then ((spec_l01Damage.f l c1 h1 t).bind fun d => F k d.1 d.2.1 d.2.2) else some (ret t)) r → Ev (fun k => F k t c1 ((lcgN n H : Nat) : Int)) r := by
   intro r hr
   refine Ev.step (fun k => hF k t c1 _) ?_
   rw [e1]
   exact hr
  by_cases hx : x = 0
  ·have hlast : ¬ (d = 0 ∨ d = 2) := by
    rintro (z | z)
    ·rw [show n + 1 = m + 3 by omega] at b2; omega
    ·rw [show n + 1 = m + 1 by omega] at b2; omega
   obtain ⟨t', c2, h2, e2, z2, s2, g2, k2⟩ := damage_full (h := h1) s1 (show t.size ≤ 8000000000000 by omega)
   obtain ⟨rfl, q⟩ := k2 hc
   have hq : ∃ i, (i = 2 ∨ i = 4) ∧ h2 = ((lcgN (n + i) H : Nat) : Int) := by
    rw [b1, hNat_cast (lt _)] at q
    rcases q with q | q
    ·exact ⟨2, .inl rfl, q⟩
    ·exact ⟨4, .inr rfl, q⟩
   obtain ⟨i, hi, rfl⟩ := hq
   obtain ⟨t2, e3, z3⟩ := ih (d - i) (by omega) (n + i) t' (by omega) (by omega) (by omega)
   refine ⟨t2, hst _ ?_, z3⟩
   simp only [if_pos hx, e2, Option.bind_some]
   exact e3
  ·refine ⟨t, hst _ ?_, by omega⟩
   simp only [if_neg hx]
   exact Ev.now _
theorem damages_ev {α : Type} {l : List Int} {F : Nat → ByteArray → Int → Int → Option α} {ret : ByteArray → α}
  (hF : ∀ k t c h, F (k + 1) t c h = (spec_l01Next.f l c h 3).bind fun b => if b.1 = 0 then ((spec_l01Damage.f l b.2.1 b.2.2 t).bind fun d => F k d.1 d.2.1 d.2.2) else some (ret t)) :
  ∀ (d : Nat) (c h : Int) (t : ByteArray), Src l c → (l.length : Int) - c = d → t.size + d ≤ 100000 → ∃ t', Ev (fun k => F k t c h) (ret t') ∧ t'.size ≤ 8000000000000 := by
 intro d
 induction d using Nat.strongRecOn with
 | _ d ih =>
  intro c h t hs hd ht
  by_cases hc : c = (l.length : Int)
  ·obtain ⟨m, m0, mm, m1, m3⟩ := two_good (hNat h)
   have hH : hNat h < 18446744073709551616 := by unfold hNat; omega
   obtain ⟨t', e, z⟩ := damages_end hF hs hc m0 m1 m3 hH (m + 2) 0 t rfl (by omega) (by omega)
   refine ⟨t', ?_, z⟩
   obtain ⟨K, hK⟩ := e
   refine ⟨K + 1, fun k hk => ?_⟩
   obtain ⟨k, rfl⟩ : ∃ j, k = j + 1 := ⟨k - 1, by omega⟩
   rw [← hK (k + 1) (by omega)]
   show F (k + 1) t c h = F (k + 1) t c _
   rw [hF, hF]
   have : spec_l01Next.f l c h 3 = spec_l01Next.f l c ((lcgN 0 (hNat h) : Nat) : Int) 3 := by
    obtain ⟨x, c1, h1, e1, _, _, _, _, k1⟩ := next_full (h := h) hs (show (1 : Int) ≤ 3 by omega)
    obtain ⟨y, c2, h2, e2, _, _, _, _, k2⟩ := next_full (h := ((lcgN 0 (hNat h) : Nat) : Int)) hs (show (1 : Int) ≤ 3 by omega)
    obtain ⟨a1, a2, a3⟩ := k1 hc
    obtain ⟨b1, b2, b3⟩ := k2 hc
    have : (((lcgN 0 (hNat h) : Nat) : Int) % 18446744073709551616).toNat = (h % 18446744073709551616).toNat := hNat_cast hH
    rw [this] at b2 b3
    rw [e1, e2, a1, a2, a3, b1, b2, b3]
   rw [this]
  ·obtain ⟨x, c1, h1, e1, r1, s1, g1, l1, _⟩ := next_full (h := h) hs (show (1 : Int) ≤ 3 by omega)
   have c1' : c < l.length := by have := hs.2.2.1; omega
   have hst : ∀ r, Ev (fun k => if x = 0 then ((spec_l01Damage.f l c1 h1 t).bind fun d => F k d.1 d.2.1 d.2.2) else some (ret t)) r → Ev (fun k => F k t c h) r := by
    intro r hr
    refine Ev.step (fun k => hF k t c h) ?_
    rw [e1]
    exact hr
   by_cases hx : x = 0
   ·obtain ⟨t', c2, h2, e2, z2, s2, g2, _⟩ := damage_full (h := h1) s1 (show t.size ≤ 8000000000000 by omega)
    have := l1 c1'
    have := s2.2.2.1
    obtain ⟨t2, e3, z3⟩ := ih ((l.length : Int) - c2).toNat (by omega) c2 h2 t' s2 (by omega) (by omega)
    refine ⟨t2, hst _ ?_, z3⟩
    simp only [if_pos hx, e2, Option.bind_some]
    exact e3
   ·refine ⟨t, hst _ ?_, by omega⟩
    simp only [if_neg hx]
    exact Ev.now _
theorem vald_app : ∀ (l : List UInt8) (c : UInt8) (a : Int), vald a (l ++ [c]) = vald a l * 10 + ((c.toNat : Int) - 48) := by
 intro l c
 induction l with
 | nil => intro a; rfl
 | cons b r ih => intro a; exact ih _
theorem digit_nat {d : Nat} (h : d < 10) : (UInt8.ofNat (48 + d)).toNat = 48 + d := by
 rw [UInt8.toNat_ofNat']; omega
theorem dd_facts : ∀ (n u : Nat), u ≤ n → Go.Lib.decDigits u ≠ [] ∧ (Go.Lib.decDigits u).all dg = true ∧ (u ≠ 0 → (Go.Lib.decDigits u).head? ≠ some 48) ∧ vald 0 (Go.Lib.decDigits u) = u := by
 intro n
 induction n with
 | zero =>
  intro u hu
  obtain rfl : u = 0 := by omega
  rw [Go.Lib.decDigits_one (by omega)]
  exact ⟨by simp, by decide, fun h => absurd rfl h, by decide⟩
 | succ n ih =>
  intro u hu
  by_cases h10 : u < 10
  ·rw [Go.Lib.decDigits_one h10]
   have e := digit_nat h10
   refine ⟨by simp, ?_, fun h0 => ?_, ?_⟩
   ·simp only [List.all_cons, List.all_nil, Bool.and_true]
    rw [dg_iff, e]; omega
   ·simp only [List.head?_cons, ne_eq, Option.some.injEq]
    intro z
    have := congrArg UInt8.toNat z
    rw [e] at this
    exact h0 (by have h48 : (48 : UInt8).toNat = 48 := rfl; omega)
   ·show (0 : Int) * 10 + (((UInt8.ofNat (48 + u)).toNat : Int) - 48) = u
    rw [e]; omega
  ·have hdd : Go.Lib.decDigits u = Go.Lib.decDigits (u / 10) ++ [UInt8.ofNat (48 + u % 10)] := by
    conv => lhs; rw [Go.Lib.decDigits]
    rw [dif_neg h10]
   obtain ⟨i1, i2, i3, i4⟩ := ih (u / 10) (by omega)
   have e := digit_nat (show u % 10 < 10 by omega)
   rw [hdd]
   refine ⟨by simp, ?_, fun _ => ?_, ?_⟩
   ·rw [List.all_append, i2, Bool.true_and]
    simp only [List.all_cons, List.all_nil, Bool.and_true]
    rw [dg_iff, e]; omega
   ·have h3 := i3 (by omega)
    cases hl : Go.Lib.decDigits (u / 10) with
    | nil => exact absurd hl i1
    | cons c r => rw [hl] at h3; exact h3
   ·rw [vald_app, i4, e]; omega
theorem dd_num (u : Nat) : numOk (Go.Lib.decDigits u) = true := by
 obtain ⟨h1, h2, h3, _⟩ := dd_facts u u (Nat.le_refl _)
 rw [numOk_iff]
 refine ⟨h1, h2, ?_⟩
 by_cases h0 : u = 0
 ·subst h0; left; rw [Go.Lib.decDigits_one (by omega)]; simp
 ·exact .inr (h3 h0)
theorem SN_dd {u : Nat} (h : (u : Int) < 100000000000) : SN (Go.Lib.decDigits u) = u := by
 have h4 := (dd_facts u u (Nat.le_refl _)).2.2.2
 rw [SN_of (dd_num u) (len_of_small (dd_num u) (m := 11) (by omega) (by rw [h4]; exact h)), h4]
theorem SN_itoa {n : Int} (h0 : 0 ≤ n) (h1 : n < 100000000000) : SN (Go.Lib.itoa n) = n := by
 obtain ⟨u, rfl⟩ := Int.eq_ofNat_of_zero_le h0
 rw [Go.Lib.itoa_nonneg]
 exact SN_dd h1
theorem SS_itoa {n : Int} (h0 : -100000000000 < n) (h1 : n < 100000000000) : SS (Go.Lib.itoa n) = (n, true) := by
 by_cases hn : 0 ≤ n
 ·have := SN_itoa hn h1
  rw [SN_SS (by omega), this]
 ·obtain ⟨u, rfl⟩ : ∃ u : Nat, n = -(u : Int) := ⟨n.natAbs, by omega⟩
  rw [Go.Lib.itoa_neg u (by omega)]
  have e : negT (45 :: Go.Lib.decDigits u) = (true, Go.Lib.decDigits u) := rfl
  unfold SS
  rw [e]
  dsimp only
  rw [if_pos rfl, SN_dd (by omega)]
  rw [decide_eq_true (show ((u : Nat) : Int) > 0 by omega)]
theorem itoa_no {n : Int} {c : UInt8} (h : dg c = false) (hc : c ≠ 45) : c ∉ Go.Lib.itoa n := by
 intro hm
 by_cases hn : 0 ≤ n
 ·obtain ⟨u, rfl⟩ := Int.eq_ofNat_of_zero_le hn
  rw [Go.Lib.itoa_nonneg] at hm
  rw [dig_in (dd_num u) hm] at h; exact absurd h (by simp)
 ·obtain ⟨u, rfl⟩ : ∃ u : Nat, n = -(u : Int) := ⟨n.natAbs, by omega⟩
  rw [Go.Lib.itoa_neg u (by omega), List.mem_cons] at hm
  rcases hm with hm | hm
  ·exact hc hm
  ·rw [dig_in (dd_num u) hm] at h; exact absurd h (by simp)
theorem DT_list (n : Int) : (DT n).data.toList = Go.Lib.itoa n := rfl
theorem PEnd_ET {n d : Int} (h : EndOk n d) : PEnd (ET n d).data.toList = (n, d, 0) := by
 unfold ET
 by_cases hd : d = 0
 ·have h1 := h
  unfold EndOk at h1
  rw [if_pos hd] at h1
  rw [if_pos hd, h1, hd]; rfl
 ·have hb := end_small h
  rw [if_neg hd, ba_app, ba_app, DT_list, DT_list, show (⟨#[47]⟩ : ByteArray).data.toList = [47] from rfl, List.append_assoc, List.singleton_append]
  unfold PEnd
  have n47 : ∀ n : Int, (47 : UInt8) ∉ Go.Lib.itoa n := fun n => itoa_no (by decide) (by decide)
  rw [if_neg, spl_at _ _ [] (n47 n), spl_no _ [] (n47 d), List.nil_append, List.nil_append]
  ·dsimp only
   rw [SS_itoa (by omega) (by omega), SN_itoa (by omega) (by omega), if_pos ⟨rfl, by omega, h⟩]
  ·intro e
   have : (47 : UInt8) ∈ ([105, 110, 102] : List UInt8) := by rw [← e]; simp
   exact absurd this (by decide)
theorem PBall_BT {p l t d : Int} (hp : IsP p) (h : Bal p l t d) : PBall p (BT l t d).data.toList = (l, t, d, 0) := by
 have hb := Bal.sm hp h
 unfold BT
 rw [ba_app, ba_app, ba_app, ba_app, DT_list, DT_list, DT_list, show (⟨#[46]⟩ : ByteArray).data.toList = [46] from rfl, show (⟨#[64]⟩ : ByteArray).data.toList = [64] from rfl]
 rw [show ((Go.Lib.itoa t ++ [46]) ++ Go.Lib.itoa d ++ [64]) ++ Go.Lib.itoa l = Go.Lib.itoa t ++ 46 :: (Go.Lib.itoa d ++ 64 :: Go.Lib.itoa l) by simp]
 have n46 : ∀ n : Int, (46 : UInt8) ∉ Go.Lib.itoa n := fun n => itoa_no (by decide) (by decide)
 have n64 : ∀ n : Int, (64 : UInt8) ∉ Go.Lib.itoa n := fun n => itoa_no (by decide) (by decide)
 rw [PBall_of (n46 t) (n46 d) (n64 t) (n64 d) (n64 l), SS_itoa (by omega) (by omega), SN_itoa (by omega) (by omega), SN_itoa (by omega) (by omega), if_pos ⟨rfl, h⟩]
theorem EndOfR_ok {n d : Int} (h : (EndOfR n d).2.2 = 0) : EndOk (EndOfR n d).1 (EndOfR n d).2.1 := by
 unfold EndOfR at h ⊢
 split
 ·rename_i h1
  rw [if_pos h1] at h
  split
  ·rename_i h2; rw [if_pos h2] at h; exact absurd h (by simp)
  ·rename_i h2
   rw [if_neg h2] at h
   split
   ·rename_i h3; exact EAt_ok h3
   ·rename_i h3; rw [if_neg h3] at h; exact absurd h (by simp)
 ·rename_i h1; rw [if_neg h1] at h; exact absurd h (by simp)
theorem EndOfR_back {n d : Int} (h : EndOk n d) : EndOfR n d = (n, d, 0) := by
 have hb := end_bounds h
 unfold EndOfR
 rw [if_pos (by omega)]
 by_cases hd : d = 0
 ·have h1 := h
  unfold EndOk at h1
  rw [if_pos hd] at h1
  subst hd; subst h1
  rw [if_neg (by omega)]; rfl
 ·rw [if_neg (by omega)]
  have h1 := h
  unfold EndOk at h1
  rw [if_neg hd] at h1
  have hg : edG n d = 1 := by
   unfold edG
   rw [if_neg (by omega), h1.2.2.2.2]; rfl
  have e : EAt n d = (n, d, decide (EndOk n d)) := by
   unfold EAt edN edD
   rw [if_neg hd, hg, Int.tdiv_one, Int.tdiv_one]
  rw [e]
  simp only [decide_eq_true h, if_true]
theorem drawEndB_ev {l : List Int} {c h : Int} (hs : Src l c) : ∃ n d c' h', Ev (fun k => spec_l01DrawEnd.f k l c h) (n, d, c', h') ∧ (-2000000 ≤ n ∧ n ≤ 2000000) ∧ (-2000000 ≤ d ∧ d ≤ 2000000) ∧ Src l c' := by
 obtain ⟨x, c1, h1, e1, r1, s1⟩ := next_eq (h := h) hs (show (1 : Int) ≤ 30 by omega)
 have start : ∀ z, Ev (fun k => spec_l01DrawEnd.j0 k x (decide (x = 0 ∨ x = 1)) l c1 h1) z → Ev (fun k => spec_l01DrawEnd.f k l c h) z := by
  intro z hz
  unfold spec_l01DrawEnd.f
  simp only [e1, Option.bind_some]
  by_cases hx : x = 0
  ·simp only [if_pos hx, show (x == 0) = decide (x = 0 ∨ x = 1) by subst hx; rfl]; exact hz
  ·simp only [if_neg hx, show (x == 1) = decide (x = 0 ∨ x = 1) by simp [hx]; rfl]; exact hz
 by_cases h01 : x = 0 ∨ x = 1
 ·refine ⟨1, 0, c1, h1, start _ ?_, by omega, by omega, s1⟩
  rw [decide_eq_true h01]
  refine Ev.step (fun k => by rw [spec_l01DrawEnd.j0]) ?_
  simp only [if_true]; exact Ev.now _
 ·by_cases h2 : x = 2
  ·obtain ⟨n, c2, h2', e2, r2, s2⟩ := pick_eq (h := h1) (xs := [2, 0, 1000001]) s1 (by simp) (by simp)
   obtain ⟨d, c3, h3, e3, r3, s3⟩ := pick_eq (h := h2') (xs := [0, 4, -1]) s2 (by simp) (by simp)
   simp only [List.mem_cons, List.not_mem_nil, or_false] at r2 r3
   refine ⟨n, d, c3, h3, start _ ?_, by omega, by omega, s3⟩
   rw [decide_eq_false h01]
   refine Ev.step (fun k => by rw [spec_l01DrawEnd.j0]) ?_
   simp only [if_neg Bool.false_ne_true, if_pos h2, e2, e3, Option.bind_some]
   exact Ev.now _
  ·obtain ⟨x1, c2, h2', e2, r2, s2⟩ := next_eq (h := h1) s1 (show (1 : Int) ≤ 20 by omega)
   obtain ⟨x2, c3, h3, e3, r3, s3⟩ := next_eq (h := h2') s2 (show (1 : Int) ≤ 200 by omega)
   obtain ⟨x3, c4, h4, e4, r4, s4⟩ := next_eq (h := h3) s3 (show (1 : Int) ≤ 2000001 by omega)
   obtain ⟨n, c5, h5, e5, r5, s5⟩ := pick_eq (h := h4) (xs := [wrap64 (x1 - 10), wrap64 (x2 - 100), wrap64 (x3 - 1000000)]) s4 (by simp) (by simp)
   obtain ⟨x6, c6, h6, e6, r6, s6⟩ := next_eq (h := h5) s5 (show (1 : Int) ≤ 20 by omega)
   obtain ⟨x7, c7, h7, e7, r7, s7⟩ := next_eq (h := h6) s6 (show (1 : Int) ≤ 8 by omega)
   have pw1 := l01Power_ev (p := 2) (show IsP 2 by unfold IsP; omega) (show x7 ≤ 22 by omega)
   obtain ⟨x8, c8, h8, e8, r8, s8⟩ := next_eq (h := h7) s7 (show (1 : Int) ≤ 6 by omega)
   have pw2 := l01Power_ev (p := 3) (show IsP 3 by unfold IsP; omega) (show x8 ≤ 22 by omega)
   obtain ⟨x9, c9, h9, e9, r9, s9⟩ := next_eq (h := h8) s8 (show (1 : Int) ≤ 1000000 by omega)
   have q1 : 1 ≤ (2 : Int) ^ x7.toNat ∧ (2 : Int) ^ x7.toNat ≤ 128 := by
    rcases (show x7 = 0 ∨ x7 = 1 ∨ x7 = 2 ∨ x7 = 3 ∨ x7 = 4 ∨ x7 = 5 ∨ x7 = 6 ∨ x7 = 7 by omega) with e | e | e | e | e | e | e | e <;> subst e <;> decide
   have q2 : 1 ≤ (3 : Int) ^ x8.toNat ∧ (3 : Int) ^ x8.toNat ≤ 243 := by
    rcases (show x8 = 0 ∨ x8 = 1 ∨ x8 = 2 ∨ x8 = 3 ∨ x8 = 4 ∨ x8 = 5 by omega) with e | e | e | e | e | e <;> subst e <;> decide
   generalize (2 : Int) ^ x7.toNat = w1 at *
   generalize (3 : Int) ^ x8.toNat = w2 at *
   obtain ⟨d, c10, h10, e10, r10, s10⟩ := pick_eq (h := h9) (xs := [1, 1, wrap64 (1 + x6), w1, w2, wrap64 (1 + x9)]) s9 (by simp) (by simp)
   rw [wrap_id (x := x1 - 10) (by omega) (by omega), wrap_id (x := x2 - 100) (by omega) (by omega), wrap_id (x := x3 - 1000000) (by omega) (by omega)] at r5
   rw [wrap_id (x := 1 + x6) (by omega) (by omega), wrap_id (x := 1 + x9) (by omega) (by omega)] at r10
   simp only [List.mem_cons, List.not_mem_nil, or_false] at r5 r10
   have nb : -1000000 ≤ n ∧ n ≤ 1000000 := by omega
   have db : 1 ≤ d ∧ d ≤ 1000000 := by omega
   have hd : d ≠ 0 := by omega
   obtain ⟨f1, f2, f3, f4, _⟩ := ed_facts (n := n) hd
   have hE : EAt n d = (edN n d, edD n d, decide (EndOk (edN n d) (edD n d))) := by unfold EAt; rw [if_neg hd]
   refine ⟨edN n d, edD n d, c10, h10, start _ ?_, by omega, by omega, s10⟩
   rw [decide_eq_false h01]
   refine Ev.step (fun k => by rw [spec_l01DrawEnd.j0]) ?_
   simp only [if_neg Bool.false_ne_true, if_neg h2, e2, e3, e4, e5, e6, e7, Option.bind_some]
   rw [bnd pw1]
   simp only [e8, Option.bind_some]
   rw [bnd pw2]
   simp only [e9, e10, Option.bind_some]
   rw [bnd (l01EndOf_ev (by omega) (by omega)), hE]
   exact Ev.now _
theorem drawEndOf_ev {l0 : List Int} (hb : ∀ x ∈ l0, (Lit.int .u8 x).wf = true) (hl : l0.length ≤ 4096) : ∃ n d, Ev (fun k => spec_DrawEndOf.f k l0) (n, d) := by
 obtain ⟨h0, e0, s0⟩ := from_ev hb (by omega)
 obtain ⟨m, c1, h1, e1, r1, s1⟩ := pick_eq (h := h0) (xs := [100, 1000000, 100000000000000000]) s0 (by simp) (by simp)
 simp only [List.mem_cons, List.not_mem_nil, or_false] at r1
 obtain ⟨n, d, c2, h2, e2, s2⟩ := parts_ev (p := 2) (h := h1) s1 (show 1 ≤ m ∧ m ≤ 100000000000000000 by omega)
 refine ⟨n, d, ?_⟩
 unfold spec_DrawEndOf.f
 rw [bnd e0]
 simp only [e1, Option.bind_some]
 rw [bnd e2]
 exact Ev.now _
theorem drawBallText_ev {l0 : List Int} (hb : ∀ x ∈ l0, (Lit.int .u8 x).wf = true) (hl : l0.length ≤ 4096) : ∃ p lv t d, Ev (fun k => spec_DrawBallText.f k l0) (p, lv, t, d) ∧ SmB lv t d := by
 obtain ⟨h0, e0, s0⟩ := from_ev hb (by omega)
 obtain ⟨p, lv, t, d, c1, h1, e1, r1, r2, s1⟩ := spoil_ev (h := h0) s0
 refine ⟨p, lv, t, d, ?_, r2⟩
 unfold spec_DrawBallText.f
 rw [bnd e0, bnd e1]
 exact Ev.now _
theorem drawEnd0_ev {l0 : List Int} (hb : ∀ x ∈ l0, (Lit.int .u8 x).wf = true) (hl : l0.length ≤ 4096) : ∃ n d, Ev (fun k => spec_DrawEndText.f k l0) (n, d) ∧ Ev (fun k => spec_DrawIsEnd.f k l0) (n, d) := by
 obtain ⟨h0, e0, s0⟩ := from_ev hb (by omega)
 obtain ⟨n, d, c1, h1, e1, r1, r2, s1⟩ := drawEndB_ev (h := h0) s0
 refine ⟨n, d, ?_, ?_⟩
 ·unfold spec_DrawEndText.f
  rw [bnd e0, bnd e1]
  exact Ev.now _
 ·unfold spec_DrawIsEnd.f
  rw [bnd e0, bnd e1]
  exact Ev.now _
theorem drawBallOfEnd_ev {l0 : List Int} (hb : ∀ x ∈ l0, (Lit.int .u8 x).wf = true) (hl : l0.length ≤ 4096) : ∃ p n d lv, Ev (fun k => spec_DrawBallOfEnd.f k l0) (p, n, d, lv) := by
 obtain ⟨h0, e0, s0⟩ := from_ev hb (by omega)
 obtain ⟨p, c1, h1, e1, r1, s1⟩ := pick_eq (h := h0) (xs := [2, 3, 5, 7, 2, 3, 4]) s0 (by simp) (by simp)
 obtain ⟨n, d, c2, h2, e2, r2, r3, s2⟩ := drawEndB_ev (h := h1) s1
 obtain ⟨x, c3, h3, e3, s3⟩ := near_eq (h := h2) s2
 refine ⟨p, n, d, wrap64 (x - 6), ?_⟩
 unfold spec_DrawBallOfEnd.f
 rw [bnd e0]
 simp only [e1, Option.bind_some]
 rw [bnd e2]
 simp only [e3, Option.bind_some]
 exact Ev.now _
theorem drawParseEnd_ev {l0 : List Int} (hb : ∀ x ∈ l0, (Lit.int .u8 x).wf = true) (hl : l0.length ≤ 4096) : ∃ t : ByteArray, Ev (fun k => spec_DrawParseEnd.f k l0) t ∧ t.size ≤ 8000000000000 := by
 obtain ⟨h0, e0, s0⟩ := from_ev hb (by omega)
 obtain ⟨n, d, c1, h1, e1, r1, r2, s1⟩ := drawEndB_ev (h := h0) s0
 have hsz : (ET n d).size ≤ 1000 := by
  have z1 := DT_size (n := n) (by omega) (by omega)
  have z2 := DT_size (n := d) (by omega) (by omega)
  unfold ET
  split
  ·exact (by decide : (⟨#[105, 110, 102]⟩ : ByteArray).size ≤ 1000)
  ·rw [ByteArray.size_append, ByteArray.size_append, show (⟨#[47]⟩ : ByteArray).size = 1 from rfl]; omega
 have q1 := s1.2.1
 have q2 := s1.2.2.1
 have q3 := s1.2.2.2
 obtain ⟨t, e2, z⟩ := damages_ev (l := l0) (F := fun k t c h => spec_DrawParseEnd.l0 k t l0 c h) (ret := id) (fun k t c h => by rw [spec_DrawParseEnd.l0]; rfl) ((l0.length : Int) - c1).toNat c1 h1 (ET n d) s1 (by omega) (by omega)
 refine ⟨t, ?_, z⟩
 unfold spec_DrawParseEnd.f
 rw [bnd e0, bnd e1, bnd (specET_ev r1 r2)]
 exact e2
theorem drawParseBall_ev {l0 : List Int} (hb : ∀ x ∈ l0, (Lit.int .u8 x).wf = true) (hl : l0.length ≤ 4096) : ∃ p, ∃ t : ByteArray, Ev (fun k => spec_DrawParseBall.f k l0) (p, t) ∧ t.size ≤ 8000000000000 := by
 obtain ⟨h0, e0, s0⟩ := from_ev hb (by omega)
 obtain ⟨p, lv, t, d, c1, h1, e1, r1, r2, s1⟩ := spoil_ev (h := h0) s0
 have f : Fit lv ∧ Fit t ∧ Fit d := by unfold SmB Sm at r2; unfold Fit; omega
 have hsz : (BT lv t d).size ≤ 1000 := by
  have z1 := DT_size (n := lv) (by have := f.1; unfold Fit at this; omega) f.1.2
  have z2 := DT_size (n := t) (by have := f.2.1; unfold Fit at this; omega) f.2.1.2
  have z3 := DT_size (n := d) (by have := f.2.2; unfold Fit at this; omega) f.2.2.2
  unfold BT
  simp only [ByteArray.size_append, show (⟨#[46]⟩ : ByteArray).size = 1 from rfl, show (⟨#[64]⟩ : ByteArray).size = 1 from rfl]; omega
 have q1 := s1.2.1
 have q2 := s1.2.2.1
 have q3 := s1.2.2.2
 obtain ⟨u, e2, z⟩ := damages_ev (l := l0) (F := fun k t c h => spec_DrawParseBall.l0 k p t l0 c h) (ret := fun t => (p, t)) (fun k t c h => by rw [spec_DrawParseBall.l0]) ((l0.length : Int) - c1).toNat c1 h1 (BT lv t d) s1 (by omega) (by omega)
 refine ⟨p, u, ?_, z⟩
 unfold spec_DrawParseBall.f
 rw [bnd e0, bnd e1, bnd (specBT_ev f.1 f.2.1 f.2.2)]
 exact e2
def ETR (n d : Int) : ByteArray × Int := if EndOk n d then (ET n d, 0) else ((⟨#[]⟩ : ByteArray), 1)
theorem endText_both (n d : Int) : Ev (fun k => spec_EndText.f k n d) (ETR n d) ∧ Ev (fun k => impl_EndText.f k n d) (ETR n d) := by
 unfold ETR
 by_cases h : EndOk n d
 ·have hb := end_bounds h
  rw [if_pos h]
  refine ⟨?_, ?_⟩
  ·unfold spec_EndText.f
   rw [bnd l01End_ev]
   simp only [decide_eq_true h, if_true]
   rw [bnd (specET_ev hb.1 hb.2)]
   exact Ev.now _
  ·unfold impl_EndText.f
   rw [bnd IsEnd_ev]
   simp only [decide_eq_true h, if_true, implET_eq hb.1 hb.2, Option.bind_some]
   exact Ev.now _
 ·rw [if_neg h]
  refine ⟨?_, ?_⟩
  ·unfold spec_EndText.f
   rw [bnd l01End_ev]
   simp only [decide_eq_false h, if_neg Bool.false_ne_true]
   exact Ev.now _
  ·unfold impl_EndText.f
   rw [bnd IsEnd_ev]
   simp only [decide_eq_false h, if_neg Bool.false_ne_true]
   exact Ev.now _
def BTR (p l t d : Int) : ByteArray × Int := if IsP p ∧ Bal p l t d then (BT l t d, 0) else ((⟨#[]⟩ : ByteArray), 1)
theorem ballText_both {p l t d : Int} (hs : SmB l t d) : Ev (fun k => spec_BallText.f k p l t d) (BTR p l t d) ∧ Ev (fun k => impl_BallText.f k p l t d) (BTR p l t d) := by
 unfold SmB Sm at hs
 have w1 : -9223372036854775808 ≤ l ∧ l ≤ 9223372036854775807 := by omega
 have w3 : -9223372036854775808 ≤ d ∧ d ≤ 9223372036854775807 := by omega
 unfold BTR
 by_cases h : IsP p ∧ Bal p l t d
 ·have f0 : Fit l := by unfold Fit; omega
  have f1 : Fit t := by unfold Fit; omega
  have f2 : Fit d := by unfold Fit; omega
  rw [if_pos h]
  refine ⟨?_, ?_⟩
  ·unfold spec_BallText.f
   rw [bnd (l01Code1 w1 w3)]
   simp only [if_pos h, if_true]
   rw [bnd (specBT_ev f0 f1 f2)]
   exact Ev.now _
  ·unfold impl_BallText.f
   rw [bnd (IsBall_ev w1 w3)]
   simp only [decide_eq_true h, if_true, implBT_eq f0 f1 f2, Option.bind_some]
   exact Ev.now _
 ·rw [if_neg h]
  refine ⟨?_, ?_⟩
  ·unfold spec_BallText.f
   rw [bnd (l01Code1 w1 w3)]
   simp only [if_neg h, if_neg (show ¬ (1 : Int) = 0 by omega)]
   exact Ev.now _
  ·unfold impl_BallText.f
   rw [bnd (IsBall_ev w1 w3)]
   simp only [decide_eq_false h, if_neg Bool.false_ne_true]
   exact Ev.now _
def PBallR (p : Int) (s : ByteArray) : Int × Int × Int × Int := if IsP p then PBall p s.data.toList else (0, 0, 0, 1)
theorem parseBall_both (p : Int) {s : ByteArray} (hs : s.size ≤ 8000000000000) : Ev (fun k => spec_ParseBall.f k p s) (PBallR p s) ∧ Ev (fun k => impl_ParseBall.f k p s) (PBallR p s) := by
 have hl : s.data.toList.length ≤ 8000000000000 := by rw [← Go.Lib.size_eq]; exact hs
 unfold PBallR
 by_cases hp : IsP p
 ·rw [if_pos hp]
  exact ⟨specParseBall_ev hp rfl hl, implParseBall_ev hp rfl hl⟩
 ·rw [if_neg hp]
  refine ⟨?_, ?_⟩
  ·unfold spec_ParseBall.f
   simp only [l01Prime_eq, Option.bind_some, decide_eq_false hp, if_neg Bool.false_ne_true]
   exact Ev.now _
  ·unfold impl_ParseBall.f
   simp only [isPrime_eq, Option.bind_some, decide_eq_false hp, if_neg Bool.false_ne_true]
   exact Ev.now _
theorem FnEnds : laws_FnEnds.Pure := by
 intro l0 hl0 hl1 hbytes
 refine Ev.rounds (g := fun k => laws_FnEnds.f k l0) ?_
 unfold laws_FnEnds.f laws_big.f
 simp only [Option.bind_some]
 by_cases hbig : (l0.length : Int) > 4096
 ·simp only [decide_eq_true hbig, if_true]
  exact Ev.now _
 ·simp only [decide_eq_false hbig, if_neg Bool.false_ne_true]
  have hl : l0.length ≤ 4096 := by omega
  have hj3 : Ev (fun k => laws_FnEnds.j3 k l0) true := by
   obtain ⟨q, line, d1, z1⟩ := drawParseBall_ev hbytes hl
   obtain ⟨s1, i1⟩ := parseBall_both q z1
   obtain ⟨other, d2, z2⟩ := drawParseEnd_ev hbytes hl
   have zl : other.data.toList.length ≤ 8000000000000 := by rw [← Go.Lib.size_eq]; exact z2
   obtain ⟨r, n, d, lv, d3⟩ := drawBallOfEnd_ev hbytes hl
   obtain ⟨b, s3, i3, _⟩ := ballOfEnd_both r n d lv
   obtain ⟨gn, gd, d4, d5⟩ := drawEnd0_ev hbytes hl
   obtain ⟨s4, i4⟩ := endText_both gn gd
   have s5 : Ev (fun k => spec_IsEnd.f k gn gd) (decide (EndOk gn gd)) := by
    unfold spec_IsEnd.f
    rw [bnd l01End_ev]; exact Ev.now _
   refine Ev.step (fun k => by rw [laws_FnEnds.j3]) ?_
   rw [bnd d1]
   dsimp only
   rw [bnd i1, bnd s1, bnd d2, bnd (implParseEnd_ev rfl zl), bnd (specParseEnd_ev rfl zl), bnd d3]
   dsimp only
   rw [bnd i3, bnd s3, bnd d4]
   dsimp only
   rw [bnd i4, bnd s4, bnd d5]
   simp only [if_true, beq_self_eq_true, Bool.and_self]
   rw [bnd IsEnd_ev, bnd s5]
   simp only [beq_self_eq_true]
   exact Ev.now _
  have hj1 : Ev (fun k => laws_FnEnds.j1 k l0) true := by
   obtain ⟨p, lv, t, d, d1, hw⟩ := drawBallText_ev hbytes hl
   obtain ⟨s1, i1⟩ := ballText_both (p := p) hw
   refine Ev.step (fun k => by rw [laws_FnEnds.j1]) ?_
   rw [bnd d1]
   dsimp only
   rw [bnd i1, bnd s1]
   simp only [if_true, bne_self_eq_false]
   refine Ev.step (fun k => by rw [laws_FnEnds.j2]) ?_
   simp only [if_neg Bool.false_ne_true]
   by_cases hb : IsP p ∧ Bal p lv t d
   ·have e : BTR p lv t d = (BT lv t d, 0) := by unfold BTR; rw [if_pos hb]
    have f : Fit lv ∧ Fit t ∧ Fit d := by unfold SmB Sm at hw; unfold Fit; omega
    have hz : (BT lv t d).size ≤ 8000000000000 := by
     have g1 := f.1
     have g2 := f.2.1
     have g3 := f.2.2
     unfold Fit at g1 g2 g3
     have z1 := DT_size (n := lv) (by omega) (by omega)
     have z2 := DT_size (n := t) (by omega) (by omega)
     have z3 := DT_size (n := d) (by omega) (by omega)
     unfold BT
     simp only [ByteArray.size_append, show (⟨#[46]⟩ : ByteArray).size = 1 from rfl, show (⟨#[64]⟩ : ByteArray).size = 1 from rfl]; omega
    have i2 := (parseBall_both p hz).2
    have e2 : PBallR p (BT lv t d) = (lv, t, d, 0) := by unfold PBallR; rw [if_pos hb.1, PBall_BT hb.1 hb.2]
    rw [e2] at i2
    simp only [e, if_true]
    rw [bnd i2]
    simp only [if_true, beq_self_eq_true, Bool.not_true, Bool.or_self, if_neg Bool.false_ne_true]
    exact hj3
   ·have e : BTR p lv t d = ((⟨#[]⟩ : ByteArray), 1) := by unfold BTR; rw [if_neg hb]
    simp only [e, if_neg (show ¬ (1 : Int) = 0 by omega)]
    exact hj3
  obtain ⟨n, d, d1⟩ := drawEndOf_ev hbytes hl
  rw [bnd d1]
  dsimp only
  rw [bnd implEndOf_ev, bnd specEndOf_ev]
  simp only [if_true, beq_self_eq_true, Bool.not_true, Bool.or_self]
  refine Ev.step (fun k => by rw [laws_FnEnds.j0]) ?_
  simp only [if_neg Bool.false_ne_true]
  by_cases hz : (EndOfR n d).2.2 = 0
  ·have hok := EndOfR_ok hz
   generalize (EndOfR n d).1 = x at *
   generalize (EndOfR n d).2.1 = y at *
   have e : ETR x y = (ET x y, 0) := by unfold ETR; rw [if_pos hok]
   have i1 := (endText_both x y).2
   rw [e] at i1
   have hb := end_bounds hok
   have zl : (ET x y).data.toList.length ≤ 8000000000000 := by
    rw [← Go.Lib.size_eq]
    have z1 := DT_size (n := x) (by omega) (by omega)
    have z2 := DT_size (n := y) (by omega) (by omega)
    unfold ET
    split
    ·exact (by decide : (⟨#[105, 110, 102]⟩ : ByteArray).size ≤ 8000000000000)
    ·rw [ByteArray.size_append, ByteArray.size_append, show (⟨#[47]⟩ : ByteArray).size = 1 from rfl]; omega
   have i2 := implParseEnd_ev (s := ET x y) rfl zl
   rw [PEnd_ET hok] at i2
   have i3 := implEndOf_ev (n := x) (d := y)
   rw [EndOfR_back hok] at i3
   simp only [if_pos hz]
   rw [bnd i1]
   dsimp only
   rw [bnd i2, bnd i3]
   simp only [if_true, beq_self_eq_true, Bool.not_true, Bool.or_self, if_neg Bool.false_ne_true]
   rw [bnd IsEnd_ev]
   simp only [decide_eq_true hok, if_true]
   exact hj1
  ·simp only [if_neg hz]
   exact hj1

end Go.Proofs.YtgdkmchphpjifaaGreatDoor.Pure

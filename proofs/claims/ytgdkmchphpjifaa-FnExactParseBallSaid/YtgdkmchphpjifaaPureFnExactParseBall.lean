/- ParseBall and the reference's ParseBall answer the same for every prime and every text. No condition. -/
import Derived.Test.YtgdkmchphpjifaaPFnExactParseBallx6
import Derived.Test.YtgdkmchphpjifaaMath
import Derived.Lib.IndexBytes
import Derived.Lib.Bytealg
namespace Go.Proofs.Ytgdkmchphpjifaa.Pure
open Go.RowKit Go.Proofs.Ytgdkmchphpjifaa.PFnExactParseBall Go.Proofs.YtgdkmchphpjifaaW.PrintWords Go.Proofs.YtgdkmchphpjifaaW.PrintLast Go.Proofs.YtgdkmchphpjifaaW.PrintMore Go.Proofs.Ytgdkmchphpjifaa.Math
set_option linter.unusedVariables false
set_option linter.unusedSimpArgs false
theorem isPrime_eq (p : Int) : impl_isPrime.f p = some (decide (IsP p)) := by
  unfold impl_isPrime.f IsP
  by_cases h2 : p = 2
  · subst h2; rfl
  by_cases h3 : p = 3
  · subst h3; rfl
  by_cases h5 : p = 5
  · subst h5; rfl
  by_cases h7 : p = 7
  · subst h7; rfl
  simp [h2, h3, h5, h7]
theorem l01Prime_eq (p : Int) : spec_l01Prime.f p = some (decide (IsP p)) := by
  unfold spec_l01Prime.f IsP
  by_cases h2 : p = 2
  · subst h2; rfl
  by_cases h3 : p = 3
  · subst h3; rfl
  by_cases h5 : p = 5
  · subst h5; rfl
  by_cases h7 : p = 7
  · subst h7; rfl
  simp [h2, h3, h5, h7]
theorem l01In_eq (n a b : Int) : spec_l01In.f n a b = some (decide (a ≤ n ∧ n ≤ b)) := by
  unfold spec_l01In.f
  by_cases h : n ≥ a
  · rw [if_pos h]; simp [h]
  · rw [if_neg h]; simp; omega
theorem isLevel_eq (n : Int) : impl_isLevel.f n = some (decide (-6 ≤ n ∧ n ≤ 6)) := by
  unfold impl_isLevel.f
  by_cases h : n ≥ (-6)
  · rw [if_pos h]; simp [h]
  · rw [if_neg h]; simp; omega
theorem power_l {p : Int} (h : IsP p) (n : Nat) (hn : p ^ n ≤ 9223372036854775807) (hn' : n ≤ 1000) : ∀ d i, i + d = n → Ev (fun k => impl_power.l0 k p (p ^ i) n i) (p ^ n) := by
  intro d
  induction d with
  | zero =>
    intro i hi
    obtain rfl : i = n := by omega
    refine Ev.step (fun k => by rw [impl_power.l0]) ?_
    simp only [if_neg (Int.lt_irrefl _)]
    exact Ev.now _
  | succ d ih =>
    intro i hi
    refine Ev.step (fun k => by rw [impl_power.l0]) ?_
    have h1 : (i : Int) < n := by omega
    have h2 := pow_pos' h (i + 1)
    have h3 := pow_mono h (m := i + 1) (n := n) (by omega)
    have e1 : wrap64 (p ^ i * p) = p ^ (i + 1) := by rw [← show p ^ (i + 1) = p ^ i * p from Int.pow_succ p i]; exact wrap_id (by omega) (by omega)
    have e2 : wrap64 ((i : Int) + 1) = ((i + 1 : Nat) : Int) := by rw [wrap_id (by omega) (by omega)]; omega
    simp only [if_pos h1, e1, e2]
    exact ih (i + 1) (by omega)
theorem power_big {p : Int} (h : IsP p) {n : Nat} (hn : p ^ n ≤ 9223372036854775807) (hn' : n ≤ 1000) : Ev (fun k => impl_power.f k p n) (p ^ n) := by
  unfold impl_power.f
  have := power_l h n hn hn' n 0 (by omega)
  rw [Int.pow_zero] at this
  exact this
theorem power_ev {p : Int} (h : IsP p) {n : Int} (hn : n ≤ 22) : Ev (fun k => impl_power.f k p n) (p ^ n.toNat) := by
  by_cases h0 : 0 ≤ n
  · have := power_big h (n := n.toNat) (by have := pow_le_22 h (n := n.toNat) (by omega); omega) (by omega)
    rw [Int.toNat_of_nonneg h0] at this
    exact this
  · unfold impl_power.f
    refine Ev.step (fun k => by rw [impl_power.l0]) ?_
    have e : n.toNat = 0 := by omega
    simp only [if_neg (show ¬ (0 : Int) < n by omega), e, Int.pow_zero]
    exact Ev.now _
theorem l01Power_l {p : Int} (h : IsP p) : ∀ (d : Nat) (i : Nat), p ^ (i + d) ≤ 9223372036854775807 → i + d ≤ 1000 → Ev (fun k => spec_l01Power.l0 k p d (p ^ i)) (p ^ (i + d)) := by
  intro d
  induction d with
  | zero =>
    intro i _ _
    refine Ev.step (fun k => by rw [spec_l01Power.l0]) ?_
    simp only [if_neg (show ¬ ((0 : Nat) : Int) > 0 by omega)]
    exact Ev.now _
  | succ d ih =>
    intro i hi hi'
    refine Ev.step (fun k => by rw [spec_l01Power.l0]) ?_
    have h2 := pow_pos' h (i + 1)
    have h3 := pow_mono h (m := i + 1) (n := i + (d + 1)) (by omega)
    have e1 : wrap64 (p ^ i * p) = p ^ (i + 1) := by rw [← show p ^ (i + 1) = p ^ i * p from Int.pow_succ p i]; exact wrap_id (by omega) (by omega)
    have e2 : wrap64 (((d + 1 : Nat) : Int) - 1) = (d : Int) := by rw [wrap_id (by omega) (by omega)]; omega
    simp only [if_pos (show ((d + 1 : Nat) : Int) > 0 by omega), e1, e2]
    have e3 : i + (d + 1) = i + 1 + d := by omega
    rw [e3] at hi ⊢
    exact ih (i + 1) hi (by omega)
theorem l01Power_big {p : Int} (h : IsP p) {n : Nat} (hn : p ^ n ≤ 9223372036854775807) (hn' : n ≤ 1000) : Ev (fun k => spec_l01Power.f k p n) (p ^ n) := by
  unfold spec_l01Power.f
  have := l01Power_l h n 0 (by rw [Nat.zero_add]; exact hn) (by omega)
  rw [Int.pow_zero, Nat.zero_add] at this
  exact this
theorem l01Power_ev {p : Int} (h : IsP p) {n : Int} (hn : n ≤ 22) : Ev (fun k => spec_l01Power.f k p n) (p ^ n.toNat) := by
  by_cases h0 : 0 ≤ n
  · have := l01Power_big h (n := n.toNat) (by have := pow_le_22 h (n := n.toNat) (by omega); omega) (by omega)
    rw [Int.toNat_of_nonneg h0] at this
    exact this
  · unfold spec_l01Power.f
    refine Ev.step (fun k => by rw [spec_l01Power.l0]) ?_
    have e : n.toNat = 0 := by omega
    simp only [if_neg (show ¬ n > 0 by omega), e, Int.pow_zero]
    exact Ev.now _
theorem IsBall_ev {p l t d : Int} (hl : -9223372036854775808 ≤ l ∧ l ≤ 9223372036854775807) (hd : -9223372036854775808 ≤ d ∧ d ≤ 9223372036854775807) :
    Ev (fun k => impl_IsBall.f k p l t d) (decide (IsP p ∧ Bal p l t d)) := by
  unfold impl_IsBall.f
  simp only [isPrime_eq, isLevel_eq, Option.bind_some]
  have bad : ∀ {c : Prop} [Decidable c], ¬ c → Ev (fun k => impl_IsBall.j0 k p true l t d) (decide c) := by
    intro c _ hc
    refine Ev.step (fun k => by rw [impl_IsBall.j0]) ?_
    simp only [if_true]
    exact ev_some (by simp [hc])
  by_cases hp : IsP p
  · simp only [hp, decide_true, if_true]
    by_cases h1 : -6 ≤ l ∧ l ≤ 6
    · simp only [h1, decide_true, if_true, and_self]
      by_cases h2 : d < 0
      · simp only [if_pos h2]
        exact bad (by unfold Bal; omega)
      · simp only [if_neg h2]
        by_cases h3 : d > 6
        · simp only [h3, decide_true]
          exact bad (by unfold Bal; omega)
        · simp only [h3, decide_false]
          refine Ev.step (fun k => by rw [impl_IsBall.j0]) ?_
          have e : wrap64 (l + d) = l + d := wrap_id (by omega) (by omega)
          simp only [if_neg Bool.false_ne_true, e]
          by_cases h4 : l + d ≤ 0
          · simp only [if_pos h4]
            by_cases h5 : t = 0
            · simp only [if_pos h5]
              exact ev_dec (by rw [Bal_low h4]; simp [hp, h5]; omega)
            · simp only [if_neg h5]
              exact ev_dec (by rw [Bal_low h4]; simp [h5])
          · simp only [if_neg h4]
            have hpw := pow_pos' hp (l + d).toNat
            by_cases h5 : t ≥ 0
            · simp only [if_pos h5]
              rw [bnd (power_ev hp (by omega))]
              by_cases h6 : t < p ^ (l + d).toNat
              · simp only [if_pos h6]
                by_cases h7 : d = 0
                · simp only [if_pos h7]
                  exact ev_dec (by rw [Bal_high h4]; simp [hp, h7] at h6 ⊢; omega)
                · simp only [if_neg h7, if_neg hp.ne]
                  refine ev_dec ?_
                  rw [Bal_high h4]
                  by_cases h8 : p ∣ t <;> simp [hp, h7, tmod_zero_iff, h8] <;> omega
              · simp only [if_neg h6]
                exact ev_dec (by rw [Bal_high h4]; simp [hp]; omega)
            · simp only [if_neg h5]
              exact ev_dec (by rw [Bal_high h4]; simp [hp]; omega)
    · simp only [h1, decide_false, if_neg Bool.false_ne_true]
      exact bad (by unfold Bal; omega)
  · simp only [hp, decide_false, if_neg Bool.false_ne_true]
    exact bad (by simp)
theorem l01Is_ev {p l t d : Int} (hl : -9223372036854775808 ≤ l ∧ l ≤ 9223372036854775807) (hd : -9223372036854775808 ≤ d ∧ d ≤ 9223372036854775807) :
    Ev (fun k => spec_l01Is.f k p l t d) (decide (IsP p ∧ Bal p l t d)) := by
  unfold spec_l01Is.f
  simp only [l01Prime_eq, l01In_eq, Option.bind_some]
  have bad : ∀ {c : Prop} [Decidable c], ¬ c → Ev (fun k => spec_l01Is.j0 k p true l t d) (decide c) := by
    intro c _ hc
    refine Ev.step (fun k => by rw [spec_l01Is.j0]) ?_
    simp only [if_true]
    exact ev_some (by simp [hc])
  by_cases hp : IsP p
  · simp only [hp, decide_true, if_true]
    by_cases h1 : -6 ≤ l ∧ l ≤ 6
    · simp only [h1, decide_true, if_true, and_self]
      by_cases h2 : 0 ≤ d ∧ d ≤ 6
      · simp only [h2, decide_true, and_self, Bool.not_true]
        refine Ev.step (fun k => by rw [spec_l01Is.j0]) ?_
        have e : wrap64 (l + d) = l + d := wrap_id (by omega) (by omega)
        simp only [if_neg Bool.false_ne_true, e]
        by_cases h4 : l + d ≤ 0
        · simp only [if_pos h4]
          by_cases h5 : t = 0
          · simp only [if_pos h5]
            exact ev_dec (by rw [Bal_low h4]; simp [hp, h5]; omega)
          · simp only [if_neg h5]
            exact ev_dec (by rw [Bal_low h4]; simp [h5])
        · simp only [if_neg h4]
          have hpw := pow_pos' hp (l + d).toNat
          have hpw2 := pow_le_22 hp (n := (l + d).toNat) (by omega)
          rw [bnd (l01Power_ev hp (by omega))]
          have e2 : wrap64 (p ^ (l + d).toNat - 1) = p ^ (l + d).toNat - 1 := wrap_id (by omega) (by omega)
          simp only [l01In_eq, Option.bind_some, e2]
          by_cases h6 : 0 ≤ t ∧ t ≤ p ^ (l + d).toNat - 1
          · simp only [h6, decide_true, if_true, and_self]
            by_cases h7 : d = 0
            · simp only [if_pos h7]
              exact ev_dec (by rw [Bal_high h4]; simp [hp, h7] at h6 ⊢; omega)
            · simp only [if_neg h7, if_neg hp.ne]
              refine ev_dec ?_
              rw [Bal_high h4]
              by_cases h8 : p ∣ t <;> simp [hp, h7, tmod_zero_iff, h8] <;> omega
          · simp only [h6, decide_false, if_neg Bool.false_ne_true]
            exact ev_dec (by rw [Bal_high h4]; simp [hp]; omega)
      · simp only [h2, decide_false, Bool.not_false]
        exact bad (by unfold Bal; omega)
    · simp only [h1, decide_false, if_neg Bool.false_ne_true]
      exact bad (by unfold Bal; omega)
  · simp only [hp, decide_false, if_neg Bool.false_ne_true]
    exact bad (by simp)
theorem Bal.sm {p l t d : Int} (hp : IsP p) (h : Bal p l t d) : (-6 ≤ l ∧ l ≤ 6) ∧ (0 ≤ t ∧ t ≤ 13841287201) ∧ 0 ≤ d ∧ d ≤ 6 := by
  have h1 := h.small hp
  unfold Bal at h
  split at h <;> omega
theorem bt_ls {s : ByteArray} {pre rest : List UInt8} {c : UInt8} (h : s.data.toList = pre ++ c :: rest) : bt s (pre.length : Int) = (c.toNat : Int) := by
  have h2 : pre.length < s.size := by rw [Go.Lib.size_eq, h, List.length_append, List.length_cons]; omega
  have h3 := Go.Lib.data_getElem? s pre.length h2
  rw [h, List.getElem?_append_right (Nat.le_refl _), Nat.sub_self, List.getElem?_cons_zero] at h3
  have h4 := Option.some.inj h3
  have := bt_at s (pre.length : Int) (by simpa using h2)
  rw [← this]
  simp only [Int.toNat_natCast]
  rw [← h4]
theorem size_ls {s : ByteArray} {l : List UInt8} (h : s.data.toList = l) : (s.size : Int) = l.length := by rw [Go.Lib.size_eq, h]
def dg (c : UInt8) : Bool := decide (48 ≤ c.toNat) && decide (c.toNat ≤ 57)
def vald : Int → List UInt8 → Int
  | a, [] => a
  | a, c :: r => vald (a * 10 + ((c.toNat : Int) - 48)) r
theorem dg_iff {c : UInt8} : dg c = true ↔ 48 ≤ c.toNat ∧ c.toNat ≤ 57 := by unfold dg; simp
theorem vald_ge : ∀ (l : List UInt8) (a : Int), l.all dg = true → a * 10 ^ l.length ≤ vald a l := by
  intro l
  induction l with
  | nil => intro a _; simp [vald]
  | cons c r ih =>
    intro a h
    simp only [List.all_cons, Bool.and_eq_true] at h
    have hc := dg_iff.1 h.1
    have h1 := ih (a * 10 + ((c.toNat : Int) - 48)) h.2
    have p0 : (0 : Int) < 10 ^ r.length := Int.pow_pos (by omega)
    have h2 : (a * 10) * 10 ^ r.length ≤ (a * 10 + ((c.toNat : Int) - 48)) * 10 ^ r.length := Int.mul_le_mul_of_nonneg_right (by omega) (Int.le_of_lt p0)
    rw [List.length_cons, Int.pow_succ, show a * (10 ^ r.length * 10) = (a * 10) * 10 ^ r.length by rw [Int.mul_assoc, Int.mul_comm 10]]
    exact Int.le_trans h2 h1
theorem vald_lt : ∀ (l : List UInt8) (a : Int), l.all dg = true → vald a l < (a + 1) * 10 ^ l.length := by
  intro l
  induction l with
  | nil => intro a _; simp [vald]; omega
  | cons c r ih =>
    intro a h
    simp only [List.all_cons, Bool.and_eq_true] at h
    have hc := dg_iff.1 h.1
    have h1 := ih (a * 10 + ((c.toNat : Int) - 48)) h.2
    have p0 : (0 : Int) < 10 ^ r.length := Int.pow_pos (by omega)
    have h2 : (a * 10 + ((c.toNat : Int) - 48) + 1) * 10 ^ r.length ≤ ((a + 1) * 10) * 10 ^ r.length := Int.mul_le_mul_of_nonneg_right (by omega) (Int.le_of_lt p0)
    rw [List.length_cons, Int.pow_succ, show (a + 1) * (10 ^ r.length * 10) = ((a + 1) * 10) * 10 ^ r.length by rw [Int.mul_assoc, Int.mul_comm 10]]
    exact Int.lt_of_lt_of_le h1 h2
theorem vald_small {l : List UInt8} (h : l.all dg = true) {n : Nat} (hn : l.length ≤ n) : 0 ≤ vald 0 l ∧ vald 0 l < 10 ^ n := by
  have h1 := vald_ge l 0 h
  have h2 := vald_lt l 0 h
  have h3 : (10 : Int) ^ l.length ≤ 10 ^ n := by
    obtain ⟨d, rfl⟩ := Nat.le.dest hn
    rw [Int.pow_add]
    have : (1 : Int) ≤ 10 ^ d := Int.pow_pos (by omega)
    have h4 : (0 : Int) < 10 ^ l.length := Int.pow_pos (by omega)
    have := Int.mul_le_mul_of_nonneg_left this (Int.le_of_lt h4)
    omega
  omega
def numOk (l : List UInt8) : Bool := !l.isEmpty && l.all dg && (decide (l.length ≤ 1) || !(l.head? == some 48))
theorem numOk_iff {l : List UInt8} : numOk l = true ↔ l ≠ [] ∧ l.all dg = true ∧ (l.length ≤ 1 ∨ l.head? ≠ some 48) := by
  unfold numOk
  simp only [Bool.and_eq_true, Bool.or_eq_true, Bool.not_eq_true', decide_eq_true_eq, beq_eq_false_iff_ne, List.isEmpty_eq_false_iff, ne_eq, and_assoc]
/-- A number whose first digit is none of 0 is as great as its length tells. -/
theorem vald_big {l : List UInt8} (h0 : l ≠ []) (h : l.all dg = true) (h48 : l.head? ≠ some 48) : (10 : Int) ^ (l.length - 1) ≤ vald 0 l := by
  cases l with
  | nil => exact absurd rfl h0
  | cons c r =>
    simp only [List.all_cons, Bool.and_eq_true] at h
    have hc := dg_iff.1 h.1
    have hne : c ≠ 48 := fun z => h48 (by rw [z]; rfl)
    have hn : c.toNat ≠ 48 := fun z => hne (UInt8.toNat_inj.1 z)
    have h1 := vald_ge r (0 * 10 + ((c.toNat : Int) - 48)) h.2
    have p0 : (0 : Int) < 10 ^ r.length := Int.pow_pos (by omega)
    have h2 : 1 * 10 ^ r.length ≤ (0 * 10 + ((c.toNat : Int) - 48)) * 10 ^ r.length := Int.mul_le_mul_of_nonneg_right (by omega) (Int.le_of_lt p0)
    rw [List.length_cons, Nat.add_sub_cancel, vald]
    omega
def SN (l : List UInt8) : Int := if numOk l && decide (l.length ≤ 11) then vald 0 l else -1
def negT : List UInt8 → Bool × List UInt8
  | [] => (false, [])
  | c :: r => if c = 45 then (true, r) else (false, c :: r)
def SS (l : List UInt8) : Int × Bool := if (negT l).1 then (-SN (negT l).2, decide (SN (negT l).2 > 0)) else (SN l, decide (SN l ≥ 0))
def IN (m : Int) (l : List UInt8) : Int × Bool := if numOk (negT l).2 && decide (((negT l).2.length : Int) ≤ m) && !((negT l).1 && (negT l).2.head? == some 48) then (if (negT l).1 then -vald 0 (negT l).2 else vald 0 (negT l).2, true) else (0, false)
theorem negT_no {l : List UInt8} (h : (negT l).1 = false) : (negT l).2 = l := by
  cases l with
  | nil => rfl
  | cons c r =>
    by_cases hc : c = 45
    · simp [negT, hc] at h
    · simp [negT, hc]
theorem SN_ok {l : List UInt8} (h : 0 ≤ SN l) : numOk l = true ∧ l.length ≤ 11 ∧ SN l = vald 0 l := by
  unfold SN at h ⊢
  by_cases hz : (numOk l && decide (l.length ≤ 11)) = true
  · rw [if_pos hz]
    simp only [Bool.and_eq_true, decide_eq_true_eq] at hz
    exact ⟨hz.1, hz.2, rfl⟩
  · rw [if_neg hz] at h; omega
theorem SN_of {l : List UInt8} (h : numOk l = true) (h1 : l.length ≤ 11) : SN l = vald 0 l := by
  unfold SN
  rw [if_pos (by rw [h, decide_eq_true h1]; rfl)]
theorem pow10_le {a b : Nat} (h : a ≤ b) : (10 : Int) ^ a ≤ 10 ^ b := by
  obtain ⟨d, rfl⟩ := Nat.le.dest h
  rw [Int.pow_add]
  have h1 : (1 : Int) ≤ 10 ^ d := Int.pow_pos (by omega)
  have h4 : (0 : Int) < 10 ^ a := Int.pow_pos (by omega)
  have := Int.mul_le_mul_of_nonneg_left h1 (Int.le_of_lt h4)
  omega
theorem len_of_small {l : List UInt8} (h : numOk l = true) {m : Nat} (hm : 1 ≤ m) (hv : vald 0 l < 10 ^ m) : l.length ≤ m := by
  obtain ⟨h0, h1, h2⟩ := numOk_iff.1 h
  by_cases hc : l.length ≤ m
  · exact hc
  · exfalso
    have h3 := vald_big h0 h1 (h2.resolve_left (by omega))
    have := pow10_le (show m ≤ l.length - 1 by omega)
    omega
theorem pos_of_head {l : List UInt8} (h : numOk l = true) (h48 : l.head? ≠ some 48) : 1 ≤ vald 0 l := by
  obtain ⟨h0, h1, h2⟩ := numOk_iff.1 h
  have := vald_big h0 h1 h48
  have : (0 : Int) < 10 ^ (l.length - 1) := Int.pow_pos (by omega)
  omega
theorem IN_SS {m : Nat} (hm : m ≤ 11) {l : List UInt8} {v : Int} (h : IN m l = (v, true)) : SS l = (v, true) := by
  unfold IN at h
  split at h
  · rename_i hc
    simp only [Bool.and_eq_true, decide_eq_true_eq, Bool.not_eq_true', Bool.and_eq_false_iff] at hc
    obtain ⟨⟨c1, c2⟩, c3⟩ := hc
    have e := SN_of c1 (show (negT l).2.length ≤ 11 by omega)
    have hnn := (vald_small (numOk_iff.1 c1).2.1 (Nat.le_refl _)).1
    unfold SS
    by_cases hn : (negT l).1 = true
    · rw [if_pos hn] at h ⊢
      have h48 : (negT l).2.head? ≠ some 48 := by
        rcases c3 with c3 | c3
        · rw [hn] at c3; exact absurd c3 (by simp)
        · exact beq_eq_false_iff_ne.1 c3
      have hp := pos_of_head c1 h48
      have hv : -vald 0 (negT l).2 = v := (Prod.mk.inj h).1
      rw [e, hv, decide_eq_true (by omega)]
    · have hn' : (negT l).1 = false := by simpa using hn
      rw [if_neg hn] at h ⊢
      rw [negT_no hn'] at e h hnn
      have hv : vald 0 l = v := (Prod.mk.inj h).1
      rw [e, hv, decide_eq_true (by omega)]
  · exact absurd (Prod.mk.inj h).2 (by simp)
theorem SS_IN {m : Nat} (hm : 1 ≤ m) {l : List UInt8} {v : Int} (h : SS l = (v, true)) (h0 : -(10 : Int) ^ m < v) (h1 : v < 10 ^ m) : IN m l = (v, true) := by
  unfold SS at h
  unfold IN
  by_cases hn : (negT l).1 = true
  · rw [if_pos hn] at h
    have hv : -SN (negT l).2 = v := (Prod.mk.inj h).1
    have hd : SN (negT l).2 > 0 := of_decide_eq_true (Prod.mk.inj h).2
    obtain ⟨k1, k2, k3⟩ := SN_ok (l := (negT l).2) (by omega)
    have hlen := len_of_small k1 hm (by omega)
    have h48 : ((negT l).2.head? == some 48) = false := by
      rw [beq_eq_false_iff_ne]
      intro z
      obtain ⟨n0, n1, n2⟩ := numOk_iff.1 k1
      have h1 : (negT l).2.length ≤ 1 := n2.resolve_right (fun w => w z)
      cases hc : (negT l).2 with
      | nil => exact n0 hc
      | cons c r =>
        rw [hc] at z h1
        have hr : r = [] := by
          cases r with
          | nil => rfl
          | cons _ _ => simp at h1
        have hcc : c = 48 := by simpa using z
        rw [hc, hr, hcc] at k3 hd
        have : vald 0 [48] = 0 := by decide
        omega
    rw [if_pos (by rw [k1, decide_eq_true (by omega), h48]; simp), if_pos hn]
    congr 1; omega
  · have hn' : (negT l).1 = false := by simpa using hn
    rw [if_neg hn] at h
    have hv : SN l = v := (Prod.mk.inj h).1
    have hd : SN l ≥ 0 := of_decide_eq_true (Prod.mk.inj h).2
    obtain ⟨k1, k2, k3⟩ := SN_ok (l := l) (by omega)
    have hlen := len_of_small k1 hm (by omega)
    rw [negT_no hn', hn', if_pos (by rw [k1, decide_eq_true (by omega)]; rfl), if_neg (by simp)]
    congr 1; omega
theorem byte_dg {c : UInt8} : (c.toNat : Int) < 48 ∨ (c.toNat : Int) > 57 ↔ dg c = false := by
  rw [← Bool.not_eq_true, dg_iff]; omega
theorem l01Number_l {s : ByteArray} : ∀ (rest pre : List UInt8) (a : Int), s.data.toList = pre ++ rest → (pre ++ rest).length ≤ 12 → 0 ≤ a → a < 10 ^ pre.length →
    Ev (fun k => spec_l01Number.l0 k s a pre.length) (if rest.all dg then vald a rest else -1) := by
  intro rest
  induction rest with
  | nil =>
    intro pre a h hl a0 a1
    have hs := size_ls h
    rw [List.append_nil] at hs
    refine Ev.step (fun k => by rw [spec_l01Number.l0]) ?_
    simp only [if_neg (show ¬ (pre.length : Int) < (s.size : Int) by omega)]
    exact Ev.now _
  | cons c rest ih =>
    intro pre a h hl a0 a1
    have hs := size_ls h
    rw [List.length_append, List.length_cons] at hs hl
    have hb := bt_ls h
    refine Ev.step (fun k => by rw [spec_l01Number.l0]) ?_
    simp only [if_pos (show (pre.length : Int) < (s.size : Int) by omega), if_pos (show (0 : Int) ≤ pre.length by omega), hb]
    by_cases hc : dg c = true
    · have hd := dg_iff.1 hc
      simp only [if_neg (show ¬ (c.toNat : Int) < 48 by omega), if_neg (show ¬ (c.toNat : Int) > 57 by omega)]
      have hp : (10 : Int) ^ pre.length ≤ 10 ^ 12 := pow10_le (by omega)
      have e12 : (10 : Int) ^ 12 = 1000000000000 := by decide
      rw [wrap_id (x := a * 10) (by omega) (by omega), show ((c.toNat : Int) - 48) % 256 = (c.toNat : Int) - 48 by omega, wrap_id (x := a * 10 + ((c.toNat : Int) - 48)) (by omega) (by omega), wrap_id (x := (pre.length : Int) + 1) (by omega) (by omega)]
      have e : pre ++ c :: rest = (pre ++ [c]) ++ rest := by rw [List.append_assoc]; rfl
      have := ih (pre ++ [c]) (a * 10 + ((c.toNat : Int) - 48)) (by rw [← e]; exact h) (by rw [← e, List.length_append, List.length_cons]; omega) (by omega) (by rw [List.length_append, List.length_singleton, Int.pow_succ]; omega)
      rw [List.length_append, List.length_singleton] at this
      simp only [List.all_cons, hc, Bool.true_and, vald]
      exact this
    · have hc' : dg c = false := by simpa using hc
      simp only [List.all_cons, hc', Bool.false_and, if_neg Bool.false_ne_true]
      rcases byte_dg.2 hc' with h1 | h1
      · simp only [if_pos h1]; exact Ev.now _
      · simp only [if_neg (show ¬ (c.toNat : Int) < 48 by omega), if_pos h1]; exact Ev.now _
theorem l01Number_ev {s : ByteArray} {l : List UInt8} (h : s.data.toList = l) : Ev (fun k => spec_l01Number.f k s) (SN l) := by
  have hs := size_ls h
  have bad : SN l = -1 → Ev (fun k => spec_l01Number.j0 k s true) (SN l) := by
    intro e
    rw [e]
    refine Ev.step (fun k => by rw [spec_l01Number.j0]) ?_
    simp only [if_true]; exact Ev.now _
  have good : l ≠ [] → l.length ≤ 11 → (l.length ≤ 1 ∨ l.head? ≠ some 48) → Ev (fun k => spec_l01Number.j0 k s false) (SN l) := by
    intro h0 h1 h2
    refine Ev.step (fun k => by rw [spec_l01Number.j0]) ?_
    simp only [if_neg Bool.false_ne_true]
    have := l01Number_l l [] 0 h (by rw [List.nil_append]; omega) (by omega) (by simp)
    refine ev_eq this ?_
    unfold SN
    by_cases hd : l.all dg = true
    · rw [if_pos hd, if_pos (by rw [numOk_iff.2 ⟨h0, hd, h2⟩, decide_eq_true h1]; rfl)]
    · rw [if_neg hd, if_neg (by intro z; simp only [Bool.and_eq_true] at z; exact hd (numOk_iff.1 z.1).2.1)]
  unfold spec_l01Number.f
  by_cases h0 : l = []
  · simp only [if_pos (show (s.size : Int) = 0 by rw [hs, h0]; rfl)]
    exact bad (by rw [h0]; rfl)
  · have hl0 : 0 < l.length := List.length_pos_iff.2 h0
    simp only [if_neg (show ¬ (s.size : Int) = 0 by omega)]
    by_cases h1 : (s.size : Int) > 11
    · simp only [if_pos h1]
      refine bad ?_
      unfold SN
      rw [if_neg (by intro z; simp only [Bool.and_eq_true, decide_eq_true_eq] at z; omega)]
    · simp only [if_neg h1]
      by_cases h2 : (s.size : Int) > 1
      · simp only [if_pos h2, if_pos (show 0 < (s.size : Int) by omega)]
        cases l with
        | nil => exact absurd rfl h0
        | cons c r =>
          have hb := bt_ls (pre := []) (rest := r) (c := c) h
          rw [show (([] : List UInt8).length : Int) = 0 from rfl] at hb
          rw [hb]
          by_cases hc : c = 48
          · rw [show ((c.toNat : Int) == 48) = true by rw [hc]; rfl]
            refine bad ?_
            unfold SN
            rw [if_neg (by
              intro z
              simp only [Bool.and_eq_true] at z
              rcases (numOk_iff.1 z.1).2.2 with w | w
              · omega
              · exact w (by rw [hc]; rfl))]
          · rw [show ((c.toNat : Int) == 48) = false by
              rw [beq_eq_false_iff_ne]
              intro z
              exact hc (UInt8.toNat_inj.1 (show c.toNat = (48 : UInt8).toNat by simpa using (show c.toNat = 48 by omega)))]
            exact good h0 (by omega) (.inr (by simpa using hc))
      · simp only [if_neg h2]
        exact good h0 (by omega) (.inl (by omega))
theorem tail_ls {s : ByteArray} {c : UInt8} {r : List UInt8} (h : s.data.toList = c :: r) : (s.extract 1 s.size).data.toList = r := by
  rw [Go.Lib.extract_to_end, h]; rfl
theorem byte_eq {c d : UInt8} : ((c.toNat : Int) == (d.toNat : Int)) = decide (c = d) := by
  rw [Bool.eq_iff_iff, beq_iff_eq, decide_eq_true_eq]
  constructor
  · intro h; exact UInt8.toNat_inj.1 (by omega)
  · intro h; rw [h]
theorem l01Signed_ev {s : ByteArray} {l : List UInt8} (h : s.data.toList = l) : Ev (fun k => spec_l01Signed.f k s) (SS l) := by
  have hs := size_ls h
  have small : ∀ l : List UInt8, -1 ≤ SN l ∧ SN l ≤ 1000000000000 := by
    intro l
    unfold SN
    split
    · rename_i z
      simp only [Bool.and_eq_true, decide_eq_true_eq] at z
      have := vald_small (numOk_iff.1 z.1).2.1 (n := 12) (by omega)
      have e12 : (10 : Int) ^ 12 = 1000000000000 := by decide
      omega
    · omega
  unfold spec_l01Signed.f
  cases l with
  | nil =>
    rw [List.length_nil] at hs
    simp only [if_neg (show ¬ (s.size : Int) > 0 by omega)]
    refine Ev.step (fun k => by rw [spec_l01Signed.j0]) ?_
    simp only [if_neg Bool.false_ne_true]
    rw [bnd (l01Number_ev h)]
    exact Ev.now _
  | cons c r =>
    rw [List.length_cons] at hs
    simp only [if_pos (show (s.size : Int) > 0 by omega), if_pos (show 0 < (s.size : Int) by omega)]
    have hb := bt_ls (pre := []) (rest := r) (c := c) h
    rw [show (([] : List UInt8).length : Int) = 0 from rfl] at hb
    rw [hb, show (45 : Int) = ((45 : UInt8).toNat : Int) from rfl, byte_eq]
    by_cases hc : c = 45
    · rw [decide_eq_true hc]
      refine Ev.step (fun k => by rw [spec_l01Signed.j0]) ?_
      simp only [if_true, if_pos (show 1 ≤ (s.size : Int) by omega)]
      rw [bnd (l01Number_ev (tail_ls h))]
      have hn := small r
      rw [wrap_id (x := -SN r) (by omega) (by omega)]
      refine ev_some ?_
      simp [SS, negT, hc]
    · rw [decide_eq_false hc]
      refine Ev.step (fun k => by rw [spec_l01Signed.j0]) ?_
      simp only [if_neg Bool.false_ne_true]
      rw [bnd (l01Number_ev h)]
      refine ev_some ?_
      simp [SS, negT, hc]
theorem prefix_eq {s : ByteArray} {l : List UInt8} (h : s.data.toList = l) : ∃ t : ByteArray, strings_CutPrefix.f s (⟨#[45]⟩ : ByteArray) = some (t, (negT l).1) ∧ t.data.toList = (negT l).2 := by
  have hs := size_ls h
  have h1 : ((⟨#[45]⟩ : ByteArray).size : Int) = 1 := rfl
  unfold strings_CutPrefix.f stringslite_CutPrefix.f stringslite_HasPrefix.f
  rw [h1]
  cases l with
  | nil =>
    rw [List.length_nil] at hs
    simp only [if_neg (show ¬ (s.size : Int) ≥ 1 by omega), Option.bind_some, if_neg Bool.false_ne_true]
    exact ⟨s, rfl, h⟩
  | cons c r =>
    rw [List.length_cons] at hs
    have e : ((s.extract 0 ((1 : Int)).toNat).toList == (⟨#[45]⟩ : ByteArray).toList) = decide (c = 45) := by
      rw [Go.Lib.extract_toList, h, Go.Lib.toList_data]
      show ([c] == [45]) = decide (c = 45)
      rw [Bool.eq_iff_iff]; simp
    simp only [if_pos (show (s.size : Int) ≥ 1 by omega), if_pos (show (0 : Int) ≤ 1 by omega), if_pos (show (1 : Int) ≤ (s.size : Int) by omega), Option.bind_some, e]
    by_cases hc : c = 45
    · simp only [decide_eq_true hc, if_true, Option.bind_some]
      refine ⟨s.extract 1 s.size, by simp [negT, hc], ?_⟩
      rw [tail_ls h]; simp [negT, hc]
    · simp only [decide_eq_false hc, if_neg Bool.false_ne_true, Option.bind_some]
      exact ⟨s, by simp [negT, hc], by rw [h]; simp [negT, hc]⟩
theorem number_l {s : ByteArray} {n : Int} (ng : Bool) (hn : (s.size : Int) = n) : ∀ (rest pre : List UInt8) (a : Int), s.data.toList = pre ++ rest → (pre ++ rest).length ≤ 12 → 0 ≤ a → a < 10 ^ pre.length →
    Ev (fun k => impl_number.l0 k s ng a n pre.length) (if rest.all dg then (if ng then -vald a rest else vald a rest, true) else (0, false)) := by
  intro rest
  induction rest with
  | nil =>
    intro pre a h hl a0 a1
    have hs := size_ls h
    rw [List.append_nil] at hs hl
    have hp : (10 : Int) ^ pre.length ≤ 10 ^ 12 := pow10_le (by omega)
    have e12 : (10 : Int) ^ 12 = 1000000000000 := by decide
    refine Ev.step (fun k => by rw [impl_number.l0]) ?_
    simp only [if_neg (show ¬ (pre.length : Int) < n by omega), List.all_nil, if_true, vald]
    by_cases hg : ng = true
    · simp only [if_pos hg]
      rw [wrap_id (x := -a) (by omega) (by omega)]
      exact Ev.now _
    · simp only [if_neg hg]; exact Ev.now _
  | cons c rest ih =>
    intro pre a h hl a0 a1
    have hs := size_ls h
    rw [List.length_append, List.length_cons] at hs hl
    have hb := bt_ls h
    refine Ev.step (fun k => by rw [impl_number.l0]) ?_
    simp only [if_pos (show (pre.length : Int) < n by omega), if_pos (show (pre.length : Int) < (s.size : Int) by omega), if_pos (show (0 : Int) ≤ pre.length by omega), hb]
    by_cases hc : dg c = true
    · have hd := dg_iff.1 hc
      simp only [if_neg (show ¬ (c.toNat : Int) < 48 by omega), if_neg (show ¬ (c.toNat : Int) > 57 by omega)]
      have hp : (10 : Int) ^ pre.length ≤ 10 ^ 12 := pow10_le (by omega)
      have e12 : (10 : Int) ^ 12 = 1000000000000 := by decide
      rw [wrap_id (x := a * 10) (by omega) (by omega), show ((c.toNat : Int) - 48) % 256 = (c.toNat : Int) - 48 by omega, wrap_id (x := a * 10 + ((c.toNat : Int) - 48)) (by omega) (by omega), wrap_id (x := (pre.length : Int) + 1) (by omega) (by omega)]
      have e : pre ++ c :: rest = (pre ++ [c]) ++ rest := by rw [List.append_assoc]; rfl
      have := ih (pre ++ [c]) (a * 10 + ((c.toNat : Int) - 48)) (by rw [← e]; exact h) (by rw [← e, List.length_append, List.length_cons]; omega) (by omega) (by rw [List.length_append, List.length_singleton, Int.pow_succ]; omega)
      rw [List.length_append, List.length_singleton] at this
      simp only [List.all_cons, hc, Bool.true_and, vald]
      exact this
    · have hc' : dg c = false := by simpa using hc
      simp only [List.all_cons, hc', Bool.false_and, if_neg Bool.false_ne_true]
      rcases byte_dg.2 hc' with h1 | h1
      · simp only [if_pos h1]; exact Ev.now _
      · simp only [if_neg (show ¬ (c.toNat : Int) < 48 by omega), if_pos h1]; exact Ev.now _
theorem number_ev {s : ByteArray} {l : List UInt8} {m : Int} (h : s.data.toList = l) (hm : 1 ≤ m ∧ m ≤ 12) : Ev (fun k => impl_number.f k s m) (IN m l) := by
  obtain ⟨t, et, ht⟩ := prefix_eq h
  have hs := size_ls ht
  unfold impl_number.f
  simp only [et, Option.bind_some]
  have bad : ∀ ng, IN m l = (0, false) → Ev (fun k => impl_number.j0 k t ng true) (IN m l) := by
    intro ng e
    rw [e]
    refine Ev.step (fun k => by rw [impl_number.j0]) ?_
    simp only [if_true]; exact Ev.now _
  have no : ∀ w : (numOk (negT l).2 && decide (((negT l).2.length : Int) ≤ m) && !((negT l).1 && (negT l).2.head? == some 48)) = false, IN m l = (0, false) := by
    intro w
    unfold IN
    rw [if_neg (by rw [w]; simp)]
  have good : (negT l).2 ≠ [] → ((negT l).2.length : Int) ≤ m → ((negT l).2.length ≤ 1 ∨ (negT l).2.head? ≠ some 48) → ((negT l).1 && (negT l).2.head? == some 48) = false → Ev (fun k => impl_number.j0 k t (negT l).1 false) (IN m l) := by
    intro h0 h1 h2 h3
    refine Ev.step (fun k => by rw [impl_number.j0]) ?_
    simp only [if_neg Bool.false_ne_true]
    have := number_l (negT l).1 (rfl : (t.size : Int) = t.size) (negT l).2 [] 0 ht (by rw [List.nil_append]; omega) (by omega) (by simp)
    refine ev_eq this ?_
    by_cases hd : (negT l).2.all dg = true
    · unfold IN
      have hw : (numOk (negT l).2 && decide (((negT l).2.length : Int) ≤ m) && !((negT l).1 && (negT l).2.head? == some 48)) = true := by rw [numOk_iff.2 ⟨h0, hd, h2⟩, decide_eq_true h1, h3]; rfl
      rw [if_pos hd, hw, if_pos rfl]
    · rw [if_neg hd]
      refine (no ?_).symm
      have : numOk (negT l).2 = false := by
        rw [← Bool.not_eq_true]; intro z; exact hd (numOk_iff.1 z).2.1
      rw [this]; rfl
  have hemp : t.toList = ([] : List UInt8) ↔ (negT l).2 = [] := by rw [Go.Lib.toList_data, ht]
  by_cases h0 : (negT l).2 = []
  · simp only [if_pos (hemp.2 h0)]
    exact bad _ (no (by rw [h0]; rfl))
  · simp only [if_neg (fun z => h0 (hemp.1 z))]
    have hl0 : 0 < (negT l).2.length := List.length_pos_iff.2 h0
    by_cases h1 : (t.size : Int) > m
    · simp only [if_pos h1]
      exact bad _ (no (by rw [decide_eq_false (show ¬ ((negT l).2.length : Int) ≤ m by omega), Bool.and_false, Bool.false_and]))
    · simp only [if_neg h1, if_pos (show 0 < (t.size : Int) by omega)]
      obtain ⟨c, r, hcr⟩ : ∃ c r, (negT l).2 = c :: r := by
        cases hx : (negT l).2 with
        | nil => exact absurd hx h0
        | cons c r => exact ⟨c, r, rfl⟩
      have hb := bt_ls (pre := []) (rest := r) (c := c) (by rw [ht, hcr]; rfl)
      rw [show (([] : List UInt8).length : Int) = 0 from rfl] at hb
      have hhead : (negT l).2.head? = some c := by rw [hcr]; rfl
      rw [hb]
      by_cases hc : c = 48
      · have h48 : ((negT l).2.head? == some 48) = true := by rw [hhead, hc]; rfl
        simp only [if_pos (show (c.toNat : Int) = 48 by rw [hc]; rfl)]
        by_cases h2 : (t.size : Int) > 1
        · simp only [if_pos h2]
          refine bad _ (no ?_)
          have : numOk (negT l).2 = false := by
            rw [← Bool.not_eq_true]; intro z
            rcases (numOk_iff.1 z).2.2 with w | w
            · omega
            · exact w (by rw [hhead, hc])
          rw [this]; rfl
        · simp only [if_neg h2]
          by_cases hg : (negT l).1 = true
          · have := bad (negT l).1 (no (by rw [hg, h48]; simp))
            rw [hg] at this ⊢
            exact this
          · have hg' : (negT l).1 = false := by simpa using hg
            have := good h0 (by omega) (.inl (by omega)) (by rw [hg']; rfl)
            rw [hg'] at this ⊢
            exact this
      · have hne : (negT l).2.head? ≠ some 48 := by rw [hhead]; intro z; exact hc (Option.some.inj z)
        have h48 : ((negT l).2.head? == some 48) = false := beq_eq_false_iff_ne.2 hne
        simp only [if_neg (show ¬ (c.toNat : Int) = 48 from fun z => hc (UInt8.toNat_inj.1 (show c.toNat = (48 : UInt8).toNat by have e : (48 : UInt8).toNat = 48 := rfl; omega)))]
        exact good h0 (by omega) (.inr hne) (by rw [h48, Bool.and_false])
theorem indexByte_no {c : UInt8} : ∀ l : List UInt8, c ∉ l → Go.Lib.indexByte l c = -1 := by
  intro l
  induction l with
  | nil => intro _; rfl
  | cons b r ih =>
    intro h
    rw [List.mem_cons, not_or] at h
    unfold Go.Lib.indexByte
    rw [if_neg (by simpa using fun z : b = c => h.1 z.symm), if_pos (by rw [ih h.2]; rfl)]
theorem indexByte_at {c : UInt8} : ∀ (a b : List UInt8), c ∉ a → Go.Lib.indexByte (a ++ c :: b) c = a.length := by
  intro a
  induction a with
  | nil => intro b _; unfold Go.Lib.indexByte; rw [List.nil_append]; simp
  | cons x a ih =>
    intro b h
    rw [List.mem_cons, not_or] at h
    have e := ih b h.2
    rw [List.cons_append]
    unfold Go.Lib.indexByte
    rw [if_neg (by simpa using fun z : x = c => h.1 z.symm), e, if_neg (by rw [beq_iff_eq]; omega), List.length_cons]
    omega
theorem first_of {c : UInt8} {l : List UInt8} (h : c ∈ l) : ∃ a b, l = a ++ c :: b ∧ c ∉ a := by
  induction l with
  | nil => exact absurd h (by simp)
  | cons x l ih =>
    by_cases hx : x = c
    · exact ⟨[], l, by rw [hx]; rfl, by simp⟩
    · rcases List.mem_cons.1 h with h | h
      · exact absurd h.symm hx
      · obtain ⟨a, b, e, hn⟩ := ih h
        refine ⟨x :: a, b, by rw [e]; rfl, ?_⟩
        rw [List.mem_cons, not_or]
        exact ⟨fun z => hx z.symm, hn⟩
theorem index_ev {s : ByteArray} {l : List UInt8} {c : UInt8} (h : s.data.toList = l) : Ev (fun k => stringslite_Index.f k s (⟨#[c]⟩ : ByteArray)) (Go.Lib.indexByte l c) := by
  have h1 : ((⟨#[c]⟩ : ByteArray).size : Int) = 1 := rfl
  have hl : (⟨#[c]⟩ : ByteArray).toList = [c] := by rw [Go.Lib.toList_data]
  have hb : bt (⟨#[c]⟩ : ByteArray) 0 = (c.toNat : Int) := by
    have := bt_ls (s := ⟨#[c]⟩) (pre := []) (rest := []) (c := c) rfl
    exact this
  unfold stringslite_Index.f
  rw [h1]
  simp only [if_neg (show ¬ (1 : Int) = 0 by omega)]
  rw [hl, Go.Lib.toList_data, h]
  by_cases hx : [c] = l
  · rw [show ([c] == l) = true from beq_iff_eq.2 hx]
    refine Ev.step (fun k => by rw [stringslite_Index.j0]) ?_
    simp only [if_true]
    refine ev_some ?_
    rw [← hx]
    have := indexByte_at (c := c) [] [] (by simp)
    rw [List.nil_append] at this
    rw [this]; rfl
  · rw [show ([c] == l) = false from beq_eq_false_iff_ne.2 hx]
    refine Ev.step (fun k => by rw [stringslite_Index.j0]) ?_
    simp only [if_neg Bool.false_ne_true, if_true, h1, if_pos (show (0 : Int) < 1 by omega), stringslite_IndexByte.f, bytealg_IndexByteString.f, Option.bind_some, hb]
    refine ev_some ?_
    rw [h]
    congr 1
    simp
theorem cut_ev {s : ByteArray} {l : List UInt8} {c : UInt8} (h : s.data.toList = l) (hl : l.length ≤ 2000000) :
    ∃ r : ByteArray × ByteArray × Bool, Ev (fun k => strings_Cut.f k s (⟨#[c]⟩ : ByteArray)) r ∧ ((c ∉ l ∧ r.1.data.toList = l ∧ r.2.1.data.toList = []) ∨ ∃ a b, l = a ++ c :: b ∧ c ∉ a ∧ r.1.data.toList = a ∧ r.2.1.data.toList = b) := by
  have hs := size_ls h
  have h1 : ((⟨#[c]⟩ : ByteArray).size : Int) = 1 := rfl
  by_cases hc : c ∈ l
  · obtain ⟨a, b, e, hn⟩ := first_of hc
    have hx : Go.Lib.indexByte l c = a.length := by rw [e]; exact indexByte_at a b hn
    have hla : l.length = a.length + (b.length + 1) := by rw [e, List.length_append, List.length_cons]
    refine ⟨(s.extract 0 ((a.length : Int)).toNat, s.extract (((a.length : Int) + 1)).toNat s.size, true), ?_, .inr ⟨a, b, e, hn, ?_, ?_⟩⟩
    · unfold strings_Cut.f
      have : Ev (fun k => stringslite_Cut.f k s (⟨#[c]⟩ : ByteArray)) (s.extract 0 ((a.length : Int)).toNat, s.extract (((a.length : Int) + 1)).toNat s.size, true) := by
        unfold stringslite_Cut.f
        rw [bnd (index_ev h), hx, h1, wrap_id (x := (a.length : Int) + 1) (by omega) (by omega)]
        simp only [if_pos (show (a.length : Int) ≥ 0 by omega), if_pos (show (0 : Int) ≤ (a.length : Int) by omega), if_pos (show (a.length : Int) ≤ (s.size : Int) by omega), if_pos (show (0 : Int) ≤ (a.length : Int) + 1 by omega), if_pos (show (a.length : Int) + 1 ≤ (s.size : Int) by omega)]
        exact Ev.now _
      rw [bnd this]; exact Ev.now _
    · show (s.extract 0 ((a.length : Int)).toNat).data.toList = a
      rw [Go.Lib.extract_data, h, e, List.drop_zero, Int.toNat_natCast, Nat.sub_zero, List.take_left']
      rfl
    · show (s.extract (((a.length : Int) + 1)).toNat s.size).data.toList = b
      rw [Go.Lib.extract_to_end, h, e, show (((a.length : Int) + 1)).toNat = a.length + 1 by omega, ← List.drop_drop, List.drop_left' rfl]
      rfl
  · have hx := indexByte_no l hc
    refine ⟨(s, (⟨#[]⟩ : ByteArray), false), ?_, .inl ⟨hc, h, rfl⟩⟩
    unfold strings_Cut.f
    have : Ev (fun k => stringslite_Cut.f k s (⟨#[c]⟩ : ByteArray)) (s, (⟨#[]⟩ : ByteArray), false) := by
      unfold stringslite_Cut.f
      rw [bnd (index_ev h), hx]
      simp only [if_neg (show ¬ (-1 : Int) ≥ 0 by omega)]
      exact Ev.now _
    rw [bnd this]; exact Ev.now _
def spl (c : UInt8) : List UInt8 → List UInt8 → List (List UInt8)
  | cur, [] => [cur]
  | cur, b :: r => if b = c then cur :: spl c [] r else spl c (cur ++ [b]) r
theorem spl_no {c : UInt8} : ∀ (l cur : List UInt8), c ∉ l → spl c cur l = [cur ++ l] := by
  intro l
  induction l with
  | nil => intro cur _; rw [spl, List.append_nil]
  | cons b r ih =>
    intro cur h
    rw [List.mem_cons, not_or] at h
    rw [spl, if_neg (fun z => h.1 z.symm), ih _ h.2, List.append_assoc]; rfl
theorem spl_at {c : UInt8} (b : List UInt8) : ∀ (a cur : List UInt8), c ∉ a → spl c cur (a ++ c :: b) = (cur ++ a) :: spl c [] b := by
  intro a
  induction a with
  | nil => intro cur _; rw [List.nil_append, spl, if_pos rfl, List.append_nil]
  | cons x a ih =>
    intro cur h
    rw [List.mem_cons, not_or] at h
    rw [List.cons_append, spl, if_neg (fun z => h.1 z.symm), ih _ h.2, List.append_assoc]; rfl
theorem spl_pos {c : UInt8} (l : List UInt8) : 1 ≤ (spl c [] l).length := by
  by_cases h : c ∈ l
  · obtain ⟨a, b, e, hn⟩ := first_of h
    rw [e, spl_at b a [] hn, List.length_cons]; omega
  · rw [spl_no l [] h]; simp
theorem spl_two {c : UInt8} {l : List UInt8} (h : c ∈ l) : 2 ≤ (spl c [] l).length := by
  obtain ⟨a, b, e, hn⟩ := first_of h
  rw [e, spl_at b a [] hn, List.length_cons]
  have := spl_pos (c := c) b
  omega
theorem split_l {s : ByteArray} {c : UInt8} : ∀ (rest pre cur : List UInt8) (acc : List ByteArray), s.data.toList = pre ++ (cur ++ rest) → s.data.toList.length ≤ 2000000 → acc.length + rest.length ≤ 2000000 →
    ∃ r : List ByteArray, Ev (fun k => spec_l01Split.l0 k s (c.toNat : Int) acc pre.length ((pre ++ cur).length : Int)) r ∧ r.map (·.data.toList) = acc.map (·.data.toList) ++ spl c cur rest := by
  intro rest
  induction rest with
  | nil =>
    intro pre cur acc h hl ha
    have hs := size_ls h
    rw [List.append_nil] at h hs
    rw [h] at hl
    rw [List.length_append] at hs hl
    refine ⟨acc ++ [s.extract ((pre.length : Int)).toNat s.size], Ev.step (fun k => by rw [spec_l01Split.l0]) ?_, ?_⟩
    · rw [List.length_append]
      simp only [if_neg (show ¬ ((pre.length + cur.length : Nat) : Int) < (s.size : Int) by omega), if_pos (show (0 : Int) ≤ pre.length by omega), if_pos (show (pre.length : Int) ≤ (s.size : Int) by omega), if_pos (show acc.length < 8796093022208 by omega)]
      exact Ev.now _
    · rw [List.map_append, spl]
      congr 1
      show [(s.extract ((pre.length : Int)).toNat s.size).data.toList] = [cur]
      rw [Go.Lib.extract_to_end, h, Int.toNat_natCast, List.drop_left' rfl]
  | cons b rest ih =>
    intro pre cur acc h hl ha
    have hs := size_ls h
    have hl' := hl
    rw [h] at hl'
    simp only [List.length_append, List.length_cons] at hs hl' ha
    have hb := bt_ls (pre := pre ++ cur) (rest := rest) (c := b) (by rw [h, List.append_assoc])
    by_cases hc : b = c
    · have hq : s.data.toList = (pre ++ cur ++ [b]) ++ ([] ++ rest) := by rw [h]; simp
      obtain ⟨r, er, hr⟩ := ih (pre ++ cur ++ [b]) [] (acc ++ [s.extract ((pre.length : Int)).toNat (((pre ++ cur).length : Int)).toNat]) hq hl (by rw [List.length_append, List.length_singleton]; omega)
      refine ⟨r, Ev.step (fun k => by rw [spec_l01Split.l0]) ?_, ?_⟩
      · simp only [hb]
        rw [List.append_nil, (List.length_append : (pre ++ cur ++ [b]).length = (pre ++ cur).length + [b].length), List.length_singleton] at er
        simp only [List.length_append] at er ⊢
        simp only [if_pos (show ((pre.length + cur.length : Nat) : Int) < (s.size : Int) by omega), if_pos (show (0 : Int) ≤ ((pre.length + cur.length : Nat) : Int) by omega), if_pos (show (b.toNat : Int) = (c.toNat : Int) by rw [hc]), if_pos (show (0 : Int) ≤ pre.length by omega), if_pos (show (pre.length : Int) ≤ ((pre.length + cur.length : Nat) : Int) by omega), if_pos (show ((pre.length + cur.length : Nat) : Int) ≤ (s.size : Int) by omega), if_pos (show acc.length < 8796093022208 by omega)]
        rw [wrap_id (x := ((pre.length + cur.length : Nat) : Int) + 1) (by omega) (by omega)]
        exact er
      · rw [hr, List.map_append, List.append_assoc, spl, if_pos hc]
        congr 1
        show [(s.extract ((pre.length : Int)).toNat (((pre ++ cur).length : Int)).toNat).data.toList] ++ spl c [] rest = cur :: spl c [] rest
        rw [Go.Lib.extract_data, h, Int.toNat_natCast, Int.toNat_natCast, List.drop_left' rfl, List.length_append, show pre.length + cur.length - pre.length = cur.length by omega, List.take_left' rfl]
        rfl
    · obtain ⟨r, er, hr⟩ := ih pre (cur ++ [b]) acc (by rw [h]; simp) hl (by omega)
      refine ⟨r, Ev.step (fun k => by rw [spec_l01Split.l0]) ?_, by rw [hr, spl, if_neg hc]⟩
      simp only [hb]
      simp only [List.length_append, List.length_singleton] at er ⊢
      simp only [if_pos (show ((pre.length + cur.length : Nat) : Int) < (s.size : Int) by omega), if_pos (show (0 : Int) ≤ ((pre.length + cur.length : Nat) : Int) by omega), if_neg (show ¬ (b.toNat : Int) = (c.toNat : Int) from fun z => hc (UInt8.toNat_inj.1 (by omega)))]
      rw [wrap_id (x := ((pre.length + cur.length : Nat) : Int) + 1) (by omega) (by omega)]
      exact er
theorem split_ev {s : ByteArray} {l : List UInt8} {c : UInt8} (h : s.data.toList = l) (hl : l.length ≤ 2000000) :
    ∃ r : List ByteArray, Ev (fun k => spec_l01Split.f k s (c.toNat : Int)) r ∧ r.map (·.data.toList) = spl c [] l := by
  obtain ⟨r, er, hr⟩ := split_l (s := s) (c := c) l [] [] [] (by rw [h]; rfl) (by rw [h]; exact hl) (by simpa using hl)
  exact ⟨r, er, by simpa using hr⟩
theorem two_pieces {r : List ByteArray} {a b : List UInt8} (h : r.map (·.data.toList) = [a, b]) : ∃ x y : ByteArray, r = [x, y] ∧ x.data.toList = a ∧ y.data.toList = b := by
  match r, h with
  | [x, y], h => simp at h; exact ⟨x, y, rfl, h.1, h.2⟩
theorem IN_dig {m : Int} {l : List UInt8} (h : (IN m l).2 = true) : numOk (negT l).2 = true := by
  unfold IN at h
  split at h
  · rename_i z; simp only [Bool.and_eq_true] at z; exact z.1.1
  · exact absurd h (by simp)
theorem dig_in {l : List UInt8} (h : numOk l = true) {c : UInt8} (hc : c ∈ l) : dg c = true := by
  have := (numOk_iff.1 h).2.1
  rw [List.all_eq_true] at this
  exact this c hc
/-- A text that holds a sign which is neither a digit nor - is no number. -/
theorem IN_no {m : Int} {l : List UInt8} {c : UInt8} (hc : c ∈ l) (h1 : dg c = false) (h2 : c ≠ 45) : (IN m l).2 = false := by
  rw [← Bool.not_eq_true]
  intro h
  have hk := IN_dig h
  have : c ∈ (negT l).2 := by
    cases l with
    | nil => exact absurd hc (by simp)
    | cons x r =>
      by_cases hx : x = 45
      · rcases List.mem_cons.1 hc with z | z
        · exact absurd (z.trans hx) h2
        · simpa [negT, hx] using z
      · simpa [negT, hx] using hc
  have := dig_in hk this
  rw [h1] at this; exact absurd this (by simp)
theorem SN_SS {l : List UInt8} (h : 0 ≤ SN l) : SS l = (SN l, true) := by
  obtain ⟨k, _, _⟩ := SN_ok h
  have hn : (negT l).1 = false := by
    cases l with
    | nil => rfl
    | cons x r =>
      by_cases hx : x = 45
      · have := dig_in k (List.mem_cons_self ..)
        rw [hx] at this; exact absurd this (by decide)
      · simp [negT, hx]
  unfold SS
  rw [hn, if_neg (by simp), decide_eq_true (show SN l ≥ 0 by omega)]
theorem SN_range (l : List UInt8) : -1 ≤ SN l ∧ SN l ≤ 1000000000000 := by
  unfold SN
  split
  · rename_i z
    simp only [Bool.and_eq_true, decide_eq_true_eq] at z
    have := vald_small (numOk_iff.1 z.1).2.1 (n := 12) (by omega)
    have e12 : (10 : Int) ^ 12 = 1000000000000 := by decide
    omega
  · omega
theorem IN_range {m : Int} (hm : m ≤ 12) (l : List UInt8) : -1000000000000 ≤ (IN m l).1 ∧ (IN m l).1 ≤ 1000000000000 := by
  have e12 : (10 : Int) ^ 12 = 1000000000000 := by decide
  unfold IN
  split
  · rename_i z
    simp only [Bool.and_eq_true, decide_eq_true_eq] at z
    have := vald_small (numOk_iff.1 z.1.1).2.1 (n := 12) (by omega)
    split <;> (dsimp only; omega)
  · dsimp only; omega
theorem IN_SN_small {m : Int} {l : List UInt8} {v : Int} (h : IN m l = (v, true)) (h0 : 0 ≤ v) (h1 : v < 100000000000) : SN l = v := by
  have e11 : (10 : Int) ^ 11 = 100000000000 := by decide
  unfold IN at h
  split at h
  · rename_i hc
    simp only [Bool.and_eq_true, decide_eq_true_eq, Bool.not_eq_true', Bool.and_eq_false_iff] at hc
    obtain ⟨⟨c1, c2⟩, c3⟩ := hc
    by_cases hn : (negT l).1 = true
    · rw [if_pos hn] at h
      have h48 : (negT l).2.head? ≠ some 48 := by
        rcases c3 with c3 | c3
        · rw [hn] at c3; exact absurd c3 (by simp)
        · exact beq_eq_false_iff_ne.1 c3
      have hp := pos_of_head c1 h48
      have hv : -vald 0 (negT l).2 = v := (Prod.mk.inj h).1
      omega
    · have hn' : (negT l).1 = false := by simpa using hn
      rw [if_neg hn] at h
      have hv : vald 0 (negT l).2 = v := (Prod.mk.inj h).1
      rw [negT_no hn'] at hv c1
      rw [SN_of c1 (len_of_small c1 (by omega) (by omega)), hv]
  · exact absurd (Prod.mk.inj h).2 (by simp)
theorem first_uniq {c : UInt8} {a b a' b' : List UInt8} (h : a ++ c :: b = a' ++ c :: b') (ha : c ∉ a) (ha' : c ∉ a') : a = a' ∧ b = b' := by
  have e1 := spl_at b a [] ha
  have e2 := spl_at b' a' [] ha'
  rw [h, e2] at e1
  have e3 := (List.cons.inj e1).1
  rw [List.nil_append, List.nil_append] at e3
  subst e3
  have := List.append_cancel_left h
  exact ⟨rfl, (List.cons.inj this).2⟩
theorem spl_inv {c : UInt8} {l x y : List UInt8} (h : spl c [] l = [x, y]) : l = x ++ c :: y ∧ c ∉ x ∧ c ∉ y := by
  by_cases hc : c ∈ l
  · obtain ⟨a, b, e, hn⟩ := first_of hc
    rw [e, spl_at b a [] hn, List.nil_append] at h
    obtain ⟨h1, h2⟩ := List.cons.inj h
    have hb : c ∉ b := fun z => by
      have := spl_two z
      rw [h2] at this; simp at this
    rw [spl_no b [] hb, List.nil_append] at h2
    have h3 := (List.cons.inj h2).1
    subst h1; subst h3
    exact ⟨e, hn, hb⟩
  · rw [spl_no l [] hc] at h
    exact absurd (List.cons.inj h).2 (by simp)
/-- What a text of a ball tells, by the reference's rule. -/
def PBall (p : Int) (l : List UInt8) : Int × Int × Int × Int :=
  match spl 64 [] l with
  | [x, y] => (match spl 46 [] x with
    | [a, b] => if (SS y).2 = true ∧ Bal p (SS y).1 (SN a) (SN b) then ((SS y).1, SN a, SN b, 0) else (0, 0, 0, 6)
    | _ => (0, 0, 0, 6))
  | _ => (0, 0, 0, 6)
theorem PBall_of {p : Int} {a b y : List UInt8} (h46a : (46 : UInt8) ∉ a) (h46b : (46 : UInt8) ∉ b) (h64a : (64 : UInt8) ∉ a) (h64b : (64 : UInt8) ∉ b) (h64y : (64 : UInt8) ∉ y) :
    PBall p (a ++ 46 :: (b ++ 64 :: y)) = if (SS y).2 = true ∧ Bal p (SS y).1 (SN a) (SN b) then ((SS y).1, SN a, SN b, 0) else (0, 0, 0, 6) := by
  have e : a ++ 46 :: (b ++ 64 :: y) = (a ++ 46 :: b) ++ 64 :: y := by simp
  have hx : (64 : UInt8) ∉ a ++ 46 :: b := by
    rw [List.mem_append, List.mem_cons]
    rintro (z | z | z)
    · exact h64a z
    · exact absurd z (by decide)
    · exact h64b z
  have s1 : spl 64 [] (a ++ 46 :: (b ++ 64 :: y)) = [a ++ 46 :: b, y] := by rw [e, spl_at y _ [] hx, spl_no y [] h64y, List.nil_append, List.nil_append]
  have s2 : spl 46 [] (a ++ 46 :: b) = [a, b] := by rw [spl_at b a [] h46a, spl_no b [] h46b, List.nil_append, List.nil_append]
  unfold PBall
  rw [s1]
  dsimp only
  rw [s2]
theorem PBall_inv {p : Int} {l : List UInt8} (h : PBall p l ≠ (0, 0, 0, 6)) : ∃ a b y, l = a ++ 46 :: (b ++ 64 :: y) ∧ (46 : UInt8) ∉ a ∧ (64 : UInt8) ∉ b ∧ (SS y).2 = true ∧ Bal p (SS y).1 (SN a) (SN b) := by
  unfold PBall at h
  match hs : spl 64 [] l with
  | [] => rw [hs] at h; exact absurd rfl h
  | [x] => rw [hs] at h; exact absurd rfl h
  | x :: y :: z :: t => rw [hs] at h; exact absurd rfl h
  | [x, y] =>
    rw [hs] at h
    dsimp only at h
    obtain ⟨e1, n1, n2⟩ := spl_inv hs
    match ht : spl 46 [] x with
    | [] => rw [ht] at h; exact absurd rfl h
    | [a] => rw [ht] at h; exact absurd rfl h
    | a :: b :: z :: t => rw [ht] at h; exact absurd rfl h
    | [a, b] =>
      rw [ht] at h
      dsimp only at h
      obtain ⟨e2, m1, m2⟩ := spl_inv ht
      by_cases hok : (SS y).2 = true ∧ Bal p (SS y).1 (SN a) (SN b)
      · refine ⟨a, b, y, by rw [e1, e2]; simp, m1, fun z => n1 ?_, hok.1, hok.2⟩
        rw [e2, List.mem_append, List.mem_cons]
        exact .inr (.inr z)
      · rw [if_neg hok] at h; exact absurd rfl h
theorem SS_range (l : List UInt8) : -1000000000000 ≤ (SS l).1 ∧ (SS l).1 ≤ 1000000000000 := by
  unfold SS
  have h1 := SN_range l
  have h2 := SN_range (negT l).2
  split <;> (dsimp only; omega)
theorem specParseBall_ev {p : Int} (hp : IsP p) {s : ByteArray} {l : List UInt8} (h : s.data.toList = l) (hl : l.length ≤ 2000000) : Ev (fun k => spec_ParseBall.f k p s) (PBall p l) := by
  obtain ⟨r, er, hr⟩ := split_ev (c := 64) h hl
  rw [show (((64 : UInt8).toNat : Nat) : Int) = 64 from rfl] at er
  have hrl : r.length = (spl 64 [] l).length := by rw [← hr, List.length_map]
  unfold spec_ParseBall.f
  simp only [l01Prime_eq, Option.bind_some, decide_eq_true hp, if_true]
  have key : ∃ x, Ev (fun k => spec_l01Read.f k p s) x ∧ (if x.2.2.2 = true then (x.1, x.2.1, x.2.2.1, (0 : Int)) else (0, 0, 0, 6)) = PBall p l := by
    have none_ : PBall p l = (0, 0, 0, 6) → r.length ≠ 2 → ∃ x : Int × Int × Int × Bool, Ev (fun k => spec_l01Read.f k p s) x ∧ (if x.2.2.2 = true then (x.1, x.2.1, x.2.2.1, (0 : Int)) else (0, 0, 0, 6)) = PBall p l := by
      intro hz h2
      refine ⟨(0, 0, 0, false), ?_, by rw [hz]; rfl⟩
      unfold spec_l01Read.f
      rw [bnd er]
      simp only [if_neg (show ¬ (r.length : Int) = 2 by omega)]
      exact Ev.now _
    match hsp : spl 64 [] l, hrl with
    | [], hrl => exact none_ (by unfold PBall; rw [hsp]) (by simp only [List.length_cons, List.length_nil] at hrl; omega)
    | [a], hrl => exact none_ (by unfold PBall; rw [hsp]) (by simp only [List.length_cons, List.length_nil] at hrl; omega)
    | a :: b :: c :: d, hrl => exact none_ (by unfold PBall; rw [hsp]) (by simp only [List.length_cons, List.length_nil] at hrl; omega)
    | [a, b], hrl =>
      rw [hsp] at hr
      obtain ⟨x, y, rfl, hx, hy⟩ := two_pieces hr
      have hal : a.length ≤ 2000000 := by
        obtain ⟨e, _, _⟩ := spl_inv hsp
        rw [e, List.length_append] at hl; omega
      obtain ⟨q, eq_, hq⟩ := split_ev (c := 46) hx hal
      rw [show (((46 : UInt8).toNat : Nat) : Int) = 46 from rfl] at eq_
      have hql : q.length = (spl 46 [] a).length := by rw [← hq, List.length_map]
      have e0 : rdOf ByteArray.empty [x, y] 0 = x := rfl
      have e1 : rdOf ByteArray.empty [x, y] 1 = y := rfl
      have head : ∀ z, Ev (fun k => if (q.length : Int) = 2 then (spec_l01Read.j0 k p q (SS b).1 (!(SS b).2)) else (spec_l01Read.j0 k p q (SS b).1 true)) z → Ev (fun k => spec_l01Read.f k p s) z := by
        intro z hz
        unfold spec_l01Read.f
        rw [bnd er]
        simp only [show (([x, y] : List ByteArray).length : Int) = 2 from rfl, if_true, if_pos (show (0 : Int) < 2 by omega), if_pos (show (1 : Int) < 2 by omega), e0, e1]
        rw [bnd eq_, bnd (l01Signed_ev hy)]
        exact hz
      have bad : ∀ b', Ev (fun k => spec_l01Read.j0 k p q b' true) (0, 0, 0, false) := by
        intro b'
        refine Ev.step (fun k => by rw [spec_l01Read.j0]) ?_
        simp only [if_true]; exact Ev.now _
      have none2 : PBall p l = (0, 0, 0, 6) → q.length ≠ 2 → ∃ x : Int × Int × Int × Bool, Ev (fun k => spec_l01Read.f k p s) x ∧ (if x.2.2.2 = true then (x.1, x.2.1, x.2.2.1, (0 : Int)) else (0, 0, 0, 6)) = PBall p l := by
        intro hz h2
        refine ⟨(0, 0, 0, false), head _ ?_, by rw [hz]; rfl⟩
        simp only [if_neg (show ¬ (q.length : Int) = 2 by omega)]
        exact bad _
      match hsq : spl 46 [] a, hql with
      | [], hql => exact none2 (by unfold PBall; rw [hsp]; dsimp only; rw [hsq]) (by simp only [List.length_cons, List.length_nil] at hql; omega)
      | [u], hql => exact none2 (by unfold PBall; rw [hsp]; dsimp only; rw [hsq]) (by simp only [List.length_cons, List.length_nil] at hql; omega)
      | u :: v :: c :: d, hql => exact none2 (by unfold PBall; rw [hsp]; dsimp only; rw [hsq]) (by simp only [List.length_cons, List.length_nil] at hql; omega)
      | [u, v], hql =>
        rw [hsq] at hq
        obtain ⟨x', y', rfl, hx', hy'⟩ := two_pieces hq
        have f0 : rdOf ByteArray.empty [x', y'] 0 = x' := rfl
        have f1 : rdOf ByteArray.empty [x', y'] 1 = y' := rfl
        have hP : PBall p l = if (SS b).2 = true ∧ Bal p (SS b).1 (SN u) (SN v) then ((SS b).1, SN u, SN v, 0) else (0, 0, 0, 6) := by
          unfold PBall; rw [hsp]; dsimp only; rw [hsq]
        have r1 := SS_range b
        have r2 := SN_range v
        rw [hP]
        by_cases h1 : (SS b).2 = true
        · by_cases h2 : Bal p (SS b).1 (SN u) (SN v)
          · refine ⟨((SS b).1, SN u, SN v, true), head _ ?_, by show ((SS b).1, SN u, SN v, (0 : Int)) = _; rw [if_pos ⟨h1, h2⟩]⟩
            simp only [show (([x', y'] : List ByteArray).length : Int) = 2 from rfl, if_true, h1, Bool.not_true]
            refine Ev.step (fun k => by rw [spec_l01Read.j0]) ?_
            simp only [if_neg Bool.false_ne_true, show (([x', y'] : List ByteArray).length : Int) = 2 from rfl, if_pos (show (0 : Int) < 2 by omega), if_pos (show (1 : Int) < 2 by omega), f0, f1]
            rw [bnd (l01Number_ev hx'), bnd (l01Number_ev hy'), bnd (l01Is_ev (by omega) (by omega))]
            simp only [decide_eq_true (show IsP p ∧ Bal p (SS b).1 (SN u) (SN v) from ⟨hp, h2⟩), if_true]
            exact Ev.now _
          · refine ⟨(0, 0, 0, false), head _ ?_, by show ((0 : Int), (0 : Int), (0 : Int), (6 : Int)) = _; rw [if_neg (fun z => h2 z.2)]⟩
            simp only [show (([x', y'] : List ByteArray).length : Int) = 2 from rfl, if_true, h1, Bool.not_true]
            refine Ev.step (fun k => by rw [spec_l01Read.j0]) ?_
            simp only [if_neg Bool.false_ne_true, show (([x', y'] : List ByteArray).length : Int) = 2 from rfl, if_pos (show (0 : Int) < 2 by omega), if_pos (show (1 : Int) < 2 by omega), f0, f1]
            rw [bnd (l01Number_ev hx'), bnd (l01Number_ev hy'), bnd (l01Is_ev (by omega) (by omega))]
            simp only [decide_eq_false (show ¬ (IsP p ∧ Bal p (SS b).1 (SN u) (SN v)) from fun z => h2 z.2), if_neg Bool.false_ne_true]
            exact Ev.now _
        · refine ⟨(0, 0, 0, false), head _ ?_, by show ((0 : Int), (0 : Int), (0 : Int), (6 : Int)) = _; rw [if_neg (fun z => h1 z.1)]⟩
          have h1' : (SS b).2 = false := by simpa using h1
          simp only [show (([x', y'] : List ByteArray).length : Int) = 2 from rfl, if_true, h1', Bool.not_false]
          exact bad _
  obtain ⟨x, ex, hx⟩ := key
  rw [bnd ex, ← hx]
  by_cases hz : x.2.2.2 = true
  · simp only [if_pos hz]; exact Ev.now _
  · simp only [if_neg hz]; exact Ev.now _
theorem IN_nil (m : Int) : (IN m []).2 = false := rfl
theorem implParseBall_ev {p : Int} (hp : IsP p) {s : ByteArray} {l : List UInt8} (h : s.data.toList = l) (hl : l.length ≤ 2000000) : Ev (fun k => impl_ParseBall.f k p s) (PBall p l) := by
  obtain ⟨r, er, hr⟩ := cut_ev (c := 46) h hl
  have hl2 : r.2.1.data.toList.length ≤ 2000000 := by
    rcases hr with ⟨_, _, hb⟩ | ⟨a, b, hab, _, _, hb⟩
    · rw [hb]; simp
    · rw [hb]; rw [hab, List.length_append, List.length_cons] at hl; omega
  obtain ⟨q, eq_, hq⟩ := cut_ev (c := 64) (rfl : r.2.1.data.toList = r.2.1.data.toList) hl2
  unfold impl_ParseBall.f
  simp only [isPrime_eq, Option.bind_some, decide_eq_true hp, if_true]
  rw [bnd er, bnd eq_, bnd (number_ev rfl (by omega)), bnd (number_ev rfl (by omega)), bnd (number_ev rfl (by omega))]
  generalize ha : r.1.data.toList = a
  generalize hb : q.1.data.toList = b
  generalize hy : q.2.1.data.toList = y
  have ra := IN_range (show (12 : Int) ≤ 12 by omega) a
  have rb := IN_range (show (2 : Int) ≤ 12 by omega) b
  have ry := IN_range (show (2 : Int) ≤ 12 by omega) y
  -- the way that answers a ball
  have yes : (IN 12 a).2 = true → (IN 2 b).2 = true → (IN 2 y).2 = true → Bal p (IN 2 y).1 (IN 12 a).1 (IN 2 b).1 → PBall p l = ((IN 2 y).1, (IN 12 a).1, (IN 2 b).1, 0) := by
    intro h1 h2 h3 h4
    have hs := Bal.sm hp h4
    have n64 : ∀ {m : Int} {z : List UInt8}, (IN m z).2 = true → (64 : UInt8) ∉ z := fun {m z} hz hc => by
      have := IN_no (m := m) hc (by decide) (by decide)
      rw [hz] at this; exact absurd this (by simp)
    have n46 : ∀ {m : Int} {z : List UInt8}, (IN m z).2 = true → (46 : UInt8) ∉ z := fun {m z} hz hc => by
      have := IN_no (m := m) hc (by decide) (by decide)
      rw [hz] at this; exact absurd this (by simp)
    have ey : IN ((2 : Nat) : Int) y = ((IN 2 y).1, true) := by rw [← h3]; rfl
    have sy := IN_SS (by omega) ey
    have sa := IN_SN_small (v := (IN 12 a).1) (by rw [← h1] : IN 12 a = ((IN 12 a).1, true)) (by omega) (by omega)
    have sb := IN_SN_small (v := (IN 2 b).1) (by rw [← h2] : IN 2 b = ((IN 2 b).1, true)) (by omega) (by omega)
    rcases hr with ⟨_, _, hb0⟩ | ⟨a', b', hab, _, ha', hb'⟩
    · rcases hq with ⟨_, hb1, _⟩ | ⟨x, z, hxz, _, _, _⟩
      · rw [hb0] at hb1; rw [hb1] at hb; rw [← hb, IN_nil] at h2; exact absurd h2 (by simp)
      · rw [hb0] at hxz; exact absurd hxz (by simp)
    · rcases hq with ⟨_, _, hy1⟩ | ⟨x, z, hxz, _, hx', hz'⟩
      · rw [hy1] at hy; rw [← hy, IN_nil] at h3; exact absurd h3 (by simp)
      · have e1 : a' = a := by rw [← ha', ha]
        have e2 : x = b := by rw [← hx', hb]
        have e3 : z = y := by rw [← hz', hy]
        rw [hb'] at hxz
        subst e1; subst e2; subst e3
        rw [hab, hxz, PBall_of (n46 h1) (n46 h2) (n64 h1) (n64 h2) (n64 h3), sy, sa, sb, if_pos ⟨rfl, h4⟩]
  have no : ¬ ((IN 12 a).2 = true ∧ (IN 2 b).2 = true ∧ (IN 2 y).2 = true ∧ Bal p (IN 2 y).1 (IN 12 a).1 (IN 2 b).1) → PBall p l = (0, 0, 0, 6) := by
    intro hno
    by_cases hz : PBall p l = (0, 0, 0, 6)
    · exact hz
    · exfalso
      obtain ⟨a', b', y', e, n1, n2, k1, k2⟩ := PBall_inv hz
      have hs := Bal.sm hp k2
      have e12 : (10 : Int) ^ 12 = 1000000000000 := by decide
      have e2 : (10 : Int) ^ 2 = 100 := by decide
      have ia := SS_IN (m := 12) (by omega) (SN_SS (l := a') (by omega)) (by rw [e12]; omega) (by rw [e12]; omega)
      have ib := SS_IN (m := 2) (by omega) (SN_SS (l := b') (by omega)) (by rw [e2]; omega) (by rw [e2]; omega)
      have iy := SS_IN (m := 2) (by omega) (l := y') (v := (SS y').1) (by rw [← k1]) (by rw [e2]; omega) (by rw [e2]; omega)
      rw [show (((12 : Nat) : Int)) = 12 from rfl] at ia
      rw [show (((2 : Nat) : Int)) = 2 from rfl] at ib iy
      rcases hr with ⟨hn, _, _⟩ | ⟨a2, b2, hab, hn, ha2, hb2⟩
      · exact hn (by rw [e]; simp)
      · obtain ⟨u1, u2⟩ := first_uniq (hab.symm.trans e) hn n1
        subst u1
        rcases hq with ⟨hn', _, _⟩ | ⟨x, z, hxz, hn', hx', hz'⟩
        · exact hn' (by rw [hb2, u2]; simp)
        · rw [hb2, u2] at hxz
          obtain ⟨v1, v2⟩ := first_uniq hxz n2 hn'
          have f1 : a = a2 := by rw [← ha, ha2]
          have f2 : b = b' := by rw [← hb, hx', v1]
          have f3 : y = y' := by rw [← hy, hz', v2]
          subst f1; subst f2; subst f3
          exact hno (by rw [ia, ib, iy]; exact ⟨rfl, rfl, rfl, k2⟩)
  by_cases h1 : (IN 12 a).2 = true
  · simp only [if_pos h1]
    by_cases h2 : (IN 2 b).2 = true
    · simp only [if_pos h2]
      by_cases h3 : (IN 2 y).2 = true
      · simp only [if_pos h3]
        rw [bnd (IsBall_ev (by omega) (by omega))]
        by_cases h4 : Bal p (IN 2 y).1 (IN 12 a).1 (IN 2 b).1
        · simp only [decide_eq_true (show IsP p ∧ Bal p (IN 2 y).1 (IN 12 a).1 (IN 2 b).1 from ⟨hp, h4⟩), if_true]
          exact ev_some (yes h1 h2 h3 h4).symm
        · simp only [decide_eq_false (show ¬ (IsP p ∧ Bal p (IN 2 y).1 (IN 12 a).1 (IN 2 b).1) from fun z => h4 z.2), if_neg Bool.false_ne_true]
          exact ev_some (no (fun z => h4 z.2.2.2)).symm
      · simp only [if_neg h3]
        exact ev_some (no (fun z => h3 z.2.2.1)).symm
    · simp only [if_neg h2]
      exact ev_some (no (fun z => h2 z.2.1)).symm
  · simp only [if_neg h1]
    exact ev_some (no (fun z => h1 z.1)).symm
theorem FnExactParseBall : laws_FnExactParseBall.Pure := by
  intro a0 a1 w0 w1
  refine Ev.rounds (g := fun k => laws_FnExactParseBall.f k a0 a1) ?_
  unfold laws_FnExactParseBall.f
  by_cases hbig : (a1.size : Int) > 1048576
  · simp only [if_pos hbig]; exact Ev.now _
  · simp only [if_neg hbig]
    have hl : a1.data.toList.length ≤ 2000000 := by rw [← Go.Lib.size_eq]; omega
    have both : ∃ r, Ev (fun k => spec_ParseBall.f k a0 a1) r ∧ Ev (fun k => impl_ParseBall.f k a0 a1) r := by
      by_cases hp : IsP a0
      · exact ⟨_, specParseBall_ev hp rfl hl, implParseBall_ev hp rfl hl⟩
      · refine ⟨(0, 0, 0, 1), ?_, ?_⟩
        · unfold spec_ParseBall.f
          simp only [l01Prime_eq, Option.bind_some, decide_eq_false hp, if_neg Bool.false_ne_true]
          exact Ev.now _
        · unfold impl_ParseBall.f
          simp only [isPrime_eq, Option.bind_some, decide_eq_false hp, if_neg Bool.false_ne_true]
          exact Ev.now _
    obtain ⟨r, h1, h2⟩ := both
    rw [bnd h1, bnd h2]
    simp only [laws_eqBall.f, if_true, Option.bind_some]
    exact Ev.now _

end Go.Proofs.Ytgdkmchphpjifaa.Pure

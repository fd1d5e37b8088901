/- ParseEnd and the reference's ParseEnd answer the same for every text. No condition. -/
import Derived.Test.YtgdkmchphpjifaaPFnExactParseEndx4
import Derived.Test.YtgdkmchphpjifaaMath
import Derived.Lib.IndexBytes
import Derived.Lib.Bytealg
namespace Go.Proofs.Ytgdkmchphpjifaa.Pure
open Go.RowKit Go.Proofs.Ytgdkmchphpjifaa.PFnExactParseEnd Go.Proofs.YtgdkmchphpjifaaW.PrintWords Go.Proofs.YtgdkmchphpjifaaW.PrintLast Go.Proofs.YtgdkmchphpjifaaW.PrintMore Go.Proofs.Ytgdkmchphpjifaa.Math
set_option linter.unusedVariables false
set_option linter.unusedSimpArgs false
theorem l01In_eq (n a b : Int) : spec_l01In.f n a b = some (decide (a ≤ n ∧ n ≤ b)) := by
  unfold spec_l01In.f
  by_cases h : n ≥ a
  · rw [if_pos h]; simp [h]
  · rw [if_neg h]; simp; omega
theorem rd_at (pre : List Int) (b : Int) (ys : List Int) : rd (pre ++ b :: ys) (pre.length : Int) = b := by
  unfold rd
  simp [List.getD_eq_getElem?_getD]
theorem within_l {m : Int} (h0 : 0 ≤ m) (h1 : m ≤ 9223372036854775807) : ∀ (ys pre : List Int), (pre ++ ys).length ≤ 1000 → Ev (fun k => impl_within.l0 k m (pre ++ ys) ((pre ++ ys).length : Int) pre.length) (decide (∀ b ∈ ys, -m ≤ b ∧ b ≤ m)) := by
  intro ys
  induction ys with
  | nil =>
    intro pre _
    refine Ev.step (fun k => by rw [impl_within.l0]) ?_
    simp only [List.append_nil, if_neg (Int.lt_irrefl _)]
    exact ev_some (by simp)
  | cons b ys ih =>
    intro pre hl
    refine Ev.step (fun k => by rw [impl_within.l0]) ?_
    have hl' : (pre ++ b :: ys).length = pre.length + (ys.length + 1) := by simp
    have hlt : (pre.length : Int) < ((pre ++ b :: ys).length : Int) := by omega
    have em : wrap64 (-m) = -m := wrap_id (by omega) (by omega)
    simp only [if_pos hlt, if_pos (show (0 : Int) ≤ (pre.length : Int) by omega), rd_at, em]
    by_cases h2 : b < -m
    · simp only [if_pos h2]
      refine ev_some ?_
      symm
      rw [decide_eq_false_iff_not]
      intro hall
      have := hall b (by simp)
      omega
    · simp only [if_neg h2]
      by_cases h3 : b > m
      · simp only [if_pos h3]
        refine ev_some ?_
        symm
        rw [decide_eq_false_iff_not]
        intro hall
        have := hall b (by simp)
        omega
      · simp only [if_neg h3]
        have e : wrap64 ((pre.length : Int) + 1) = ((pre ++ [b]).length : Int) := by rw [wrap_id (by omega) (by omega)]; simp
        have := ih (pre ++ [b]) (by simpa using hl)
        rw [e]
        simp only [List.append_assoc, List.singleton_append] at this
        refine ev_eq this ?_
        have : (∀ c ∈ b :: ys, -m ≤ c ∧ c ≤ m) ↔ (∀ c ∈ ys, -m ≤ c ∧ c ≤ m) := by simp; omega
        simp only [this]
theorem within2 {m a b : Int} (h0 : 0 ≤ m) (h1 : m ≤ 9223372036854775807) : Ev (fun k => impl_within.f k m [a, b]) (decide ((-m ≤ a ∧ a ≤ m) ∧ -m ≤ b ∧ b ≤ m)) := by
  unfold impl_within.f
  refine ev_eq (within_l h0 h1 _ [] (by simp)) ?_
  simp
theorem gcd_l : ∀ (n : Nat) (a b : Int), b.natAbs ≤ n → a.natAbs ≤ 9223372036854775807 → b.natAbs ≤ 9223372036854775807 → Ev (fun k => impl_gcd.l0 k a b) (Int.gcd a b : Int) := by
  intro n
  induction n with
  | zero =>
    intro a b hb h0 h1
    obtain rfl : b = 0 := by omega
    refine Ev.step (fun k => by rw [impl_gcd.l0]) ?_
    simp only [if_true]
    refine ev_some ?_
    rw [wrap_id (by omega) (by omega), Int.gcd_zero]
    unfold mx; split <;> omega
  | succ n ih =>
    intro a b hb h0 h1
    refine Ev.step (fun k => by rw [impl_gcd.l0]) ?_
    by_cases hz : b = 0
    · subst hz
      simp only [if_true]
      refine ev_some ?_
      rw [wrap_id (by omega) (by omega), Int.gcd_zero]
      unfold mx; split <;> omega
    · simp only [if_neg hz]
      have hlt := tmod_natAbs_lt (a := a) hz
      refine ev_eq (ih b (Int.tmod a b) (by omega) (by omega) (by omega)) ?_
      rw [gcd_tmod]
theorem gcd_ev {a b : Int} (h0 : a.natAbs ≤ 9223372036854775807) (h1 : b.natAbs ≤ 9223372036854775807) : Ev (fun k => impl_gcd.f k a b) (Int.gcd a b : Int) := by
  unfold impl_gcd.f
  exact gcd_l b.natAbs a b (Nat.le_refl _) h0 h1
theorem l01Gcd_l : ∀ (n : Nat) (a b : Int), b.natAbs ≤ n → a.natAbs ≤ 9223372036854775807 → b.natAbs ≤ 9223372036854775807 → Ev (fun k => spec_l01Gcd.l0 k a b) (Int.gcd a b : Int) := by
  intro n
  induction n with
  | zero =>
    intro a b hb h0 h1
    obtain rfl : b = 0 := by omega
    refine Ev.step (fun k => by rw [spec_l01Gcd.l0]) ?_
    simp only [if_true]
    refine ev_some ?_
    rw [wrap_id (by omega) (by omega), Int.gcd_zero]
    unfold mx; split <;> omega
  | succ n ih =>
    intro a b hb h0 h1
    refine Ev.step (fun k => by rw [spec_l01Gcd.l0]) ?_
    by_cases hz : b = 0
    · subst hz
      simp only [if_true]
      refine ev_some ?_
      rw [wrap_id (by omega) (by omega), Int.gcd_zero]
      unfold mx; split <;> omega
    · simp only [if_neg hz]
      have hlt := tmod_natAbs_lt (a := a) hz
      refine ev_eq (ih b (Int.tmod a b) (by omega) (by omega) (by omega)) ?_
      rw [gcd_tmod]
theorem l01Gcd_ev {a b : Int} (h0 : a.natAbs ≤ 9223372036854775807) (h1 : b.natAbs ≤ 9223372036854775807) : Ev (fun k => spec_l01Gcd.f k a b) (Int.gcd a b : Int) := by
  unfold spec_l01Gcd.f
  exact l01Gcd_l b.natAbs a b (Nat.le_refl _) h0 h1
theorem IsEnd_ev {n d : Int} : Ev (fun k => impl_IsEnd.f k n d) (decide (EndOk n d)) := by
  unfold impl_IsEnd.f EndOk
  by_cases hd : d = 0
  · simp only [if_pos hd]
    exact ev_dec (by simp)
  · simp only [if_neg hd]
    rw [bnd (within2 (by omega) (by omega))]
    by_cases h1 : (-1000000 ≤ n ∧ n ≤ 1000000) ∧ -1000000 ≤ d ∧ d ≤ 1000000
    · simp only [h1, and_self, decide_true, if_true]
      by_cases h2 : d > 0
      · simp only [if_pos h2]
        rw [bnd (gcd_ev (by omega) (by omega))]
        exact ev_dec (by simp; omega)
      · simp only [if_neg h2]
        exact ev_dec (by simp; omega)
    · simp only [h1, decide_false, if_neg Bool.false_ne_true]
      exact ev_dec (by simp; omega)
theorem l01End_ev {n d : Int} : Ev (fun k => spec_l01End.f k n d) (decide (EndOk n d)) := by
  unfold spec_l01End.f EndOk
  by_cases hd : d = 0
  · simp only [if_pos hd]
    exact ev_dec (by simp)
  · simp only [if_neg hd, l01In_eq, Option.bind_some]
    by_cases h1 : 1 ≤ d ∧ d ≤ 1000000
    · simp only [h1, and_self, decide_true, if_true]
      by_cases h2 : -1000000 ≤ n ∧ n ≤ 1000000
      · simp only [h2, and_self, decide_true, if_true]
        rw [bnd (l01Gcd_ev (by omega) (by omega))]
        exact ev_dec (by simp; omega)
      · simp only [h2, decide_false, if_neg Bool.false_ne_true]
        exact ev_dec (by simp; omega)
    · simp only [h1, decide_false, if_neg Bool.false_ne_true]
      exact ev_dec (by simp; omega)
theorem bt_ls {s : ByteArray} {pre rest : List UInt8} {c : UInt8} (h : s.data.toList = pre ++ c :: rest) : bt s (pre.length : Int) = (c.toNat : Int) := by
  have h2 : pre.length < s.size := by rw [Go.Lib.size_eq, h, List.length_append, List.length_cons]; omega
  have h3 := Go.Lib.data_getElem? s pre.length h2
  rw [h, List.getElem?_append_right (Nat.le_refl _), Nat.sub_self, List.getElem?_cons_zero] at h3
  have h4 := Option.some.inj h3
  have := bt_at s (pre.length : Int) (by simpa using h2)
  rw [← this]
  simp only [Int.toNat_natCast]
  rw [← h4]
theorem size_ls {s : ByteArray} {l : List UInt8} (h : s.data.toList = l) : (s.size : Int) = l.length := by rw [Go.Lib.size_eq, h]
def dg (c : UInt8) : Bool := decide (48 ≤ c.toNat) && decide (c.toNat ≤ 57)
def vald : Int → List UInt8 → Int
  | a, [] => a
  | a, c :: r => vald (a * 10 + ((c.toNat : Int) - 48)) r
theorem dg_iff {c : UInt8} : dg c = true ↔ 48 ≤ c.toNat ∧ c.toNat ≤ 57 := by unfold dg; simp
theorem vald_ge : ∀ (l : List UInt8) (a : Int), l.all dg = true → a * 10 ^ l.length ≤ vald a l := by
  intro l
  induction l with
  | nil => intro a _; simp [vald]
  | cons c r ih =>
    intro a h
    simp only [List.all_cons, Bool.and_eq_true] at h
    have hc := dg_iff.1 h.1
    have h1 := ih (a * 10 + ((c.toNat : Int) - 48)) h.2
    have p0 : (0 : Int) < 10 ^ r.length := Int.pow_pos (by omega)
    have h2 : (a * 10) * 10 ^ r.length ≤ (a * 10 + ((c.toNat : Int) - 48)) * 10 ^ r.length := Int.mul_le_mul_of_nonneg_right (by omega) (Int.le_of_lt p0)
    rw [List.length_cons, Int.pow_succ, show a * (10 ^ r.length * 10) = (a * 10) * 10 ^ r.length by rw [Int.mul_assoc, Int.mul_comm 10]]
    exact Int.le_trans h2 h1
theorem vald_lt : ∀ (l : List UInt8) (a : Int), l.all dg = true → vald a l < (a + 1) * 10 ^ l.length := by
  intro l
  induction l with
  | nil => intro a _; simp [vald]; omega
  | cons c r ih =>
    intro a h
    simp only [List.all_cons, Bool.and_eq_true] at h
    have hc := dg_iff.1 h.1
    have h1 := ih (a * 10 + ((c.toNat : Int) - 48)) h.2
    have p0 : (0 : Int) < 10 ^ r.length := Int.pow_pos (by omega)
    have h2 : (a * 10 + ((c.toNat : Int) - 48) + 1) * 10 ^ r.length ≤ ((a + 1) * 10) * 10 ^ r.length := Int.mul_le_mul_of_nonneg_right (by omega) (Int.le_of_lt p0)
    rw [List.length_cons, Int.pow_succ, show (a + 1) * (10 ^ r.length * 10) = ((a + 1) * 10) * 10 ^ r.length by rw [Int.mul_assoc, Int.mul_comm 10]]
    exact Int.lt_of_lt_of_le h1 h2
theorem vald_small {l : List UInt8} (h : l.all dg = true) {n : Nat} (hn : l.length ≤ n) : 0 ≤ vald 0 l ∧ vald 0 l < 10 ^ n := by
  have h1 := vald_ge l 0 h
  have h2 := vald_lt l 0 h
  have h3 : (10 : Int) ^ l.length ≤ 10 ^ n := by
    obtain ⟨d, rfl⟩ := Nat.le.dest hn
    rw [Int.pow_add]
    have : (1 : Int) ≤ 10 ^ d := Int.pow_pos (by omega)
    have h4 : (0 : Int) < 10 ^ l.length := Int.pow_pos (by omega)
    have := Int.mul_le_mul_of_nonneg_left this (Int.le_of_lt h4)
    omega
  omega
def numOk (l : List UInt8) : Bool := !l.isEmpty && l.all dg && (decide (l.length ≤ 1) || !(l.head? == some 48))
theorem numOk_iff {l : List UInt8} : numOk l = true ↔ l ≠ [] ∧ l.all dg = true ∧ (l.length ≤ 1 ∨ l.head? ≠ some 48) := by
  unfold numOk
  simp only [Bool.and_eq_true, Bool.or_eq_true, Bool.not_eq_true', decide_eq_true_eq, beq_eq_false_iff_ne, List.isEmpty_eq_false_iff, ne_eq, and_assoc]
/-- A number whose first digit is none of 0 is as great as its length tells. -/
theorem vald_big {l : List UInt8} (h0 : l ≠ []) (h : l.all dg = true) (h48 : l.head? ≠ some 48) : (10 : Int) ^ (l.length - 1) ≤ vald 0 l := by
  cases l with
  | nil => exact absurd rfl h0
  | cons c r =>
    simp only [List.all_cons, Bool.and_eq_true] at h
    have hc := dg_iff.1 h.1
    have hne : c ≠ 48 := fun z => h48 (by rw [z]; rfl)
    have hn : c.toNat ≠ 48 := fun z => hne (UInt8.toNat_inj.1 z)
    have h1 := vald_ge r (0 * 10 + ((c.toNat : Int) - 48)) h.2
    have p0 : (0 : Int) < 10 ^ r.length := Int.pow_pos (by omega)
    have h2 : 1 * 10 ^ r.length ≤ (0 * 10 + ((c.toNat : Int) - 48)) * 10 ^ r.length := Int.mul_le_mul_of_nonneg_right (by omega) (Int.le_of_lt p0)
    rw [List.length_cons, Nat.add_sub_cancel, vald]
    omega
def SN (l : List UInt8) : Int := if numOk l && decide (l.length ≤ 11) then vald 0 l else -1
def negT : List UInt8 → Bool × List UInt8
  | [] => (false, [])
  | c :: r => if c = 45 then (true, r) else (false, c :: r)
def SS (l : List UInt8) : Int × Bool := if (negT l).1 then (-SN (negT l).2, decide (SN (negT l).2 > 0)) else (SN l, decide (SN l ≥ 0))
def IN (m : Int) (l : List UInt8) : Int × Bool := if numOk (negT l).2 && decide (((negT l).2.length : Int) ≤ m) && !((negT l).1 && (negT l).2.head? == some 48) then (if (negT l).1 then -vald 0 (negT l).2 else vald 0 (negT l).2, true) else (0, false)
theorem negT_no {l : List UInt8} (h : (negT l).1 = false) : (negT l).2 = l := by
  cases l with
  | nil => rfl
  | cons c r =>
    by_cases hc : c = 45
    · simp [negT, hc] at h
    · simp [negT, hc]
theorem SN_ok {l : List UInt8} (h : 0 ≤ SN l) : numOk l = true ∧ l.length ≤ 11 ∧ SN l = vald 0 l := by
  unfold SN at h ⊢
  by_cases hz : (numOk l && decide (l.length ≤ 11)) = true
  · rw [if_pos hz]
    simp only [Bool.and_eq_true, decide_eq_true_eq] at hz
    exact ⟨hz.1, hz.2, rfl⟩
  · rw [if_neg hz] at h; omega
theorem SN_of {l : List UInt8} (h : numOk l = true) (h1 : l.length ≤ 11) : SN l = vald 0 l := by
  unfold SN
  rw [if_pos (by rw [h, decide_eq_true h1]; rfl)]
theorem pow10_le {a b : Nat} (h : a ≤ b) : (10 : Int) ^ a ≤ 10 ^ b := by
  obtain ⟨d, rfl⟩ := Nat.le.dest h
  rw [Int.pow_add]
  have h1 : (1 : Int) ≤ 10 ^ d := Int.pow_pos (by omega)
  have h4 : (0 : Int) < 10 ^ a := Int.pow_pos (by omega)
  have := Int.mul_le_mul_of_nonneg_left h1 (Int.le_of_lt h4)
  omega
theorem len_of_small {l : List UInt8} (h : numOk l = true) {m : Nat} (hm : 1 ≤ m) (hv : vald 0 l < 10 ^ m) : l.length ≤ m := by
  obtain ⟨h0, h1, h2⟩ := numOk_iff.1 h
  by_cases hc : l.length ≤ m
  · exact hc
  · exfalso
    have h3 := vald_big h0 h1 (h2.resolve_left (by omega))
    have := pow10_le (show m ≤ l.length - 1 by omega)
    omega
theorem pos_of_head {l : List UInt8} (h : numOk l = true) (h48 : l.head? ≠ some 48) : 1 ≤ vald 0 l := by
  obtain ⟨h0, h1, h2⟩ := numOk_iff.1 h
  have := vald_big h0 h1 h48
  have : (0 : Int) < 10 ^ (l.length - 1) := Int.pow_pos (by omega)
  omega
theorem IN_SS {m : Nat} (hm : m ≤ 11) {l : List UInt8} {v : Int} (h : IN m l = (v, true)) : SS l = (v, true) := by
  unfold IN at h
  split at h
  · rename_i hc
    simp only [Bool.and_eq_true, decide_eq_true_eq, Bool.not_eq_true', Bool.and_eq_false_iff] at hc
    obtain ⟨⟨c1, c2⟩, c3⟩ := hc
    have e := SN_of c1 (show (negT l).2.length ≤ 11 by omega)
    have hnn := (vald_small (numOk_iff.1 c1).2.1 (Nat.le_refl _)).1
    unfold SS
    by_cases hn : (negT l).1 = true
    · rw [if_pos hn] at h ⊢
      have h48 : (negT l).2.head? ≠ some 48 := by
        rcases c3 with c3 | c3
        · rw [hn] at c3; exact absurd c3 (by simp)
        · exact beq_eq_false_iff_ne.1 c3
      have hp := pos_of_head c1 h48
      have hv : -vald 0 (negT l).2 = v := (Prod.mk.inj h).1
      rw [e, hv, decide_eq_true (by omega)]
    · have hn' : (negT l).1 = false := by simpa using hn
      rw [if_neg hn] at h ⊢
      rw [negT_no hn'] at e h hnn
      have hv : vald 0 l = v := (Prod.mk.inj h).1
      rw [e, hv, decide_eq_true (by omega)]
  · exact absurd (Prod.mk.inj h).2 (by simp)
theorem SS_IN {m : Nat} (hm : 1 ≤ m) {l : List UInt8} {v : Int} (h : SS l = (v, true)) (h0 : -(10 : Int) ^ m < v) (h1 : v < 10 ^ m) : IN m l = (v, true) := by
  unfold SS at h
  unfold IN
  by_cases hn : (negT l).1 = true
  · rw [if_pos hn] at h
    have hv : -SN (negT l).2 = v := (Prod.mk.inj h).1
    have hd : SN (negT l).2 > 0 := of_decide_eq_true (Prod.mk.inj h).2
    obtain ⟨k1, k2, k3⟩ := SN_ok (l := (negT l).2) (by omega)
    have hlen := len_of_small k1 hm (by omega)
    have h48 : ((negT l).2.head? == some 48) = false := by
      rw [beq_eq_false_iff_ne]
      intro z
      obtain ⟨n0, n1, n2⟩ := numOk_iff.1 k1
      have h1 : (negT l).2.length ≤ 1 := n2.resolve_right (fun w => w z)
      cases hc : (negT l).2 with
      | nil => exact n0 hc
      | cons c r =>
        rw [hc] at z h1
        have hr : r = [] := by
          cases r with
          | nil => rfl
          | cons _ _ => simp at h1
        have hcc : c = 48 := by simpa using z
        rw [hc, hr, hcc] at k3 hd
        have : vald 0 [48] = 0 := by decide
        omega
    rw [if_pos (by rw [k1, decide_eq_true (by omega), h48]; simp), if_pos hn]
    congr 1; omega
  · have hn' : (negT l).1 = false := by simpa using hn
    rw [if_neg hn] at h
    have hv : SN l = v := (Prod.mk.inj h).1
    have hd : SN l ≥ 0 := of_decide_eq_true (Prod.mk.inj h).2
    obtain ⟨k1, k2, k3⟩ := SN_ok (l := l) (by omega)
    have hlen := len_of_small k1 hm (by omega)
    rw [negT_no hn', hn', if_pos (by rw [k1, decide_eq_true (by omega)]; rfl), if_neg (by simp)]
    congr 1; omega
theorem byte_dg {c : UInt8} : (c.toNat : Int) < 48 ∨ (c.toNat : Int) > 57 ↔ dg c = false := by
  rw [← Bool.not_eq_true, dg_iff]; omega
theorem l01Number_l {s : ByteArray} : ∀ (rest pre : List UInt8) (a : Int), s.data.toList = pre ++ rest → (pre ++ rest).length ≤ 12 → 0 ≤ a → a < 10 ^ pre.length →
    Ev (fun k => spec_l01Number.l0 k s a pre.length) (if rest.all dg then vald a rest else -1) := by
  intro rest
  induction rest with
  | nil =>
    intro pre a h hl a0 a1
    have hs := size_ls h
    rw [List.append_nil] at hs
    refine Ev.step (fun k => by rw [spec_l01Number.l0]) ?_
    simp only [if_neg (show ¬ (pre.length : Int) < (s.size : Int) by omega)]
    exact Ev.now _
  | cons c rest ih =>
    intro pre a h hl a0 a1
    have hs := size_ls h
    rw [List.length_append, List.length_cons] at hs hl
    have hb := bt_ls h
    refine Ev.step (fun k => by rw [spec_l01Number.l0]) ?_
    simp only [if_pos (show (pre.length : Int) < (s.size : Int) by omega), if_pos (show (0 : Int) ≤ pre.length by omega), hb]
    by_cases hc : dg c = true
    · have hd := dg_iff.1 hc
      simp only [if_neg (show ¬ (c.toNat : Int) < 48 by omega), if_neg (show ¬ (c.toNat : Int) > 57 by omega)]
      have hp : (10 : Int) ^ pre.length ≤ 10 ^ 12 := pow10_le (by omega)
      have e12 : (10 : Int) ^ 12 = 1000000000000 := by decide
      rw [wrap_id (x := a * 10) (by omega) (by omega), show ((c.toNat : Int) - 48) % 256 = (c.toNat : Int) - 48 by omega, wrap_id (x := a * 10 + ((c.toNat : Int) - 48)) (by omega) (by omega), wrap_id (x := (pre.length : Int) + 1) (by omega) (by omega)]
      have e : pre ++ c :: rest = (pre ++ [c]) ++ rest := by rw [List.append_assoc]; rfl
      have := ih (pre ++ [c]) (a * 10 + ((c.toNat : Int) - 48)) (by rw [← e]; exact h) (by rw [← e, List.length_append, List.length_cons]; omega) (by omega) (by rw [List.length_append, List.length_singleton, Int.pow_succ]; omega)
      rw [List.length_append, List.length_singleton] at this
      simp only [List.all_cons, hc, Bool.true_and, vald]
      exact this
    · have hc' : dg c = false := by simpa using hc
      simp only [List.all_cons, hc', Bool.false_and, if_neg Bool.false_ne_true]
      rcases byte_dg.2 hc' with h1 | h1
      · simp only [if_pos h1]; exact Ev.now _
      · simp only [if_neg (show ¬ (c.toNat : Int) < 48 by omega), if_pos h1]; exact Ev.now _
theorem l01Number_ev {s : ByteArray} {l : List UInt8} (h : s.data.toList = l) : Ev (fun k => spec_l01Number.f k s) (SN l) := by
  have hs := size_ls h
  have bad : SN l = -1 → Ev (fun k => spec_l01Number.j0 k s true) (SN l) := by
    intro e
    rw [e]
    refine Ev.step (fun k => by rw [spec_l01Number.j0]) ?_
    simp only [if_true]; exact Ev.now _
  have good : l ≠ [] → l.length ≤ 11 → (l.length ≤ 1 ∨ l.head? ≠ some 48) → Ev (fun k => spec_l01Number.j0 k s false) (SN l) := by
    intro h0 h1 h2
    refine Ev.step (fun k => by rw [spec_l01Number.j0]) ?_
    simp only [if_neg Bool.false_ne_true]
    have := l01Number_l l [] 0 h (by rw [List.nil_append]; omega) (by omega) (by simp)
    refine ev_eq this ?_
    unfold SN
    by_cases hd : l.all dg = true
    · rw [if_pos hd, if_pos (by rw [numOk_iff.2 ⟨h0, hd, h2⟩, decide_eq_true h1]; rfl)]
    · rw [if_neg hd, if_neg (by intro z; simp only [Bool.and_eq_true] at z; exact hd (numOk_iff.1 z.1).2.1)]
  unfold spec_l01Number.f
  by_cases h0 : l = []
  · simp only [if_pos (show (s.size : Int) = 0 by rw [hs, h0]; rfl)]
    exact bad (by rw [h0]; rfl)
  · have hl0 : 0 < l.length := List.length_pos_iff.2 h0
    simp only [if_neg (show ¬ (s.size : Int) = 0 by omega)]
    by_cases h1 : (s.size : Int) > 11
    · simp only [if_pos h1]
      refine bad ?_
      unfold SN
      rw [if_neg (by intro z; simp only [Bool.and_eq_true, decide_eq_true_eq] at z; omega)]
    · simp only [if_neg h1]
      by_cases h2 : (s.size : Int) > 1
      · simp only [if_pos h2, if_pos (show 0 < (s.size : Int) by omega)]
        cases l with
        | nil => exact absurd rfl h0
        | cons c r =>
          have hb := bt_ls (pre := []) (rest := r) (c := c) h
          rw [show (([] : List UInt8).length : Int) = 0 from rfl] at hb
          rw [hb]
          by_cases hc : c = 48
          · rw [show ((c.toNat : Int) == 48) = true by rw [hc]; rfl]
            refine bad ?_
            unfold SN
            rw [if_neg (by
              intro z
              simp only [Bool.and_eq_true] at z
              rcases (numOk_iff.1 z.1).2.2 with w | w
              · omega
              · exact w (by rw [hc]; rfl))]
          · rw [show ((c.toNat : Int) == 48) = false by
              rw [beq_eq_false_iff_ne]
              intro z
              exact hc (UInt8.toNat_inj.1 (show c.toNat = (48 : UInt8).toNat by simpa using (show c.toNat = 48 by omega)))]
            exact good h0 (by omega) (.inr (by simpa using hc))
      · simp only [if_neg h2]
        exact good h0 (by omega) (.inl (by omega))
theorem tail_ls {s : ByteArray} {c : UInt8} {r : List UInt8} (h : s.data.toList = c :: r) : (s.extract 1 s.size).data.toList = r := by
  rw [Go.Lib.extract_to_end, h]; rfl
theorem byte_eq {c d : UInt8} : ((c.toNat : Int) == (d.toNat : Int)) = decide (c = d) := by
  rw [Bool.eq_iff_iff, beq_iff_eq, decide_eq_true_eq]
  constructor
  · intro h; exact UInt8.toNat_inj.1 (by omega)
  · intro h; rw [h]
theorem l01Signed_ev {s : ByteArray} {l : List UInt8} (h : s.data.toList = l) : Ev (fun k => spec_l01Signed.f k s) (SS l) := by
  have hs := size_ls h
  have small : ∀ l : List UInt8, -1 ≤ SN l ∧ SN l ≤ 1000000000000 := by
    intro l
    unfold SN
    split
    · rename_i z
      simp only [Bool.and_eq_true, decide_eq_true_eq] at z
      have := vald_small (numOk_iff.1 z.1).2.1 (n := 12) (by omega)
      have e12 : (10 : Int) ^ 12 = 1000000000000 := by decide
      omega
    · omega
  unfold spec_l01Signed.f
  cases l with
  | nil =>
    rw [List.length_nil] at hs
    simp only [if_neg (show ¬ (s.size : Int) > 0 by omega)]
    refine Ev.step (fun k => by rw [spec_l01Signed.j0]) ?_
    simp only [if_neg Bool.false_ne_true]
    rw [bnd (l01Number_ev h)]
    exact Ev.now _
  | cons c r =>
    rw [List.length_cons] at hs
    simp only [if_pos (show (s.size : Int) > 0 by omega), if_pos (show 0 < (s.size : Int) by omega)]
    have hb := bt_ls (pre := []) (rest := r) (c := c) h
    rw [show (([] : List UInt8).length : Int) = 0 from rfl] at hb
    rw [hb, show (45 : Int) = ((45 : UInt8).toNat : Int) from rfl, byte_eq]
    by_cases hc : c = 45
    · rw [decide_eq_true hc]
      refine Ev.step (fun k => by rw [spec_l01Signed.j0]) ?_
      simp only [if_true, if_pos (show 1 ≤ (s.size : Int) by omega)]
      rw [bnd (l01Number_ev (tail_ls h))]
      have hn := small r
      rw [wrap_id (x := -SN r) (by omega) (by omega)]
      refine ev_some ?_
      simp [SS, negT, hc]
    · rw [decide_eq_false hc]
      refine Ev.step (fun k => by rw [spec_l01Signed.j0]) ?_
      simp only [if_neg Bool.false_ne_true]
      rw [bnd (l01Number_ev h)]
      refine ev_some ?_
      simp [SS, negT, hc]
theorem prefix_eq {s : ByteArray} {l : List UInt8} (h : s.data.toList = l) : ∃ t : ByteArray, strings_CutPrefix.f s (⟨#[45]⟩ : ByteArray) = some (t, (negT l).1) ∧ t.data.toList = (negT l).2 := by
  have hs := size_ls h
  have h1 : ((⟨#[45]⟩ : ByteArray).size : Int) = 1 := rfl
  unfold strings_CutPrefix.f stringslite_CutPrefix.f stringslite_HasPrefix.f
  rw [h1]
  cases l with
  | nil =>
    rw [List.length_nil] at hs
    simp only [if_neg (show ¬ (s.size : Int) ≥ 1 by omega), Option.bind_some, if_neg Bool.false_ne_true]
    exact ⟨s, rfl, h⟩
  | cons c r =>
    rw [List.length_cons] at hs
    have e : ((s.extract 0 ((1 : Int)).toNat).toList == (⟨#[45]⟩ : ByteArray).toList) = decide (c = 45) := by
      rw [Go.Lib.extract_toList, h, Go.Lib.toList_data]
      show ([c] == [45]) = decide (c = 45)
      rw [Bool.eq_iff_iff]; simp
    simp only [if_pos (show (s.size : Int) ≥ 1 by omega), if_pos (show (0 : Int) ≤ 1 by omega), if_pos (show (1 : Int) ≤ (s.size : Int) by omega), Option.bind_some, e]
    by_cases hc : c = 45
    · simp only [decide_eq_true hc, if_true, Option.bind_some]
      refine ⟨s.extract 1 s.size, by simp [negT, hc], ?_⟩
      rw [tail_ls h]; simp [negT, hc]
    · simp only [decide_eq_false hc, if_neg Bool.false_ne_true, Option.bind_some]
      exact ⟨s, by simp [negT, hc], by rw [h]; simp [negT, hc]⟩
theorem number_l {s : ByteArray} {n : Int} (ng : Bool) (hn : (s.size : Int) = n) : ∀ (rest pre : List UInt8) (a : Int), s.data.toList = pre ++ rest → (pre ++ rest).length ≤ 12 → 0 ≤ a → a < 10 ^ pre.length →
    Ev (fun k => impl_number.l0 k s ng a n pre.length) (if rest.all dg then (if ng then -vald a rest else vald a rest, true) else (0, false)) := by
  intro rest
  induction rest with
  | nil =>
    intro pre a h hl a0 a1
    have hs := size_ls h
    rw [List.append_nil] at hs hl
    have hp : (10 : Int) ^ pre.length ≤ 10 ^ 12 := pow10_le (by omega)
    have e12 : (10 : Int) ^ 12 = 1000000000000 := by decide
    refine Ev.step (fun k => by rw [impl_number.l0]) ?_
    simp only [if_neg (show ¬ (pre.length : Int) < n by omega), List.all_nil, if_true, vald]
    by_cases hg : ng = true
    · simp only [if_pos hg]
      rw [wrap_id (x := -a) (by omega) (by omega)]
      exact Ev.now _
    · simp only [if_neg hg]; exact Ev.now _
  | cons c rest ih =>
    intro pre a h hl a0 a1
    have hs := size_ls h
    rw [List.length_append, List.length_cons] at hs hl
    have hb := bt_ls h
    refine Ev.step (fun k => by rw [impl_number.l0]) ?_
    simp only [if_pos (show (pre.length : Int) < n by omega), if_pos (show (pre.length : Int) < (s.size : Int) by omega), if_pos (show (0 : Int) ≤ pre.length by omega), hb]
    by_cases hc : dg c = true
    · have hd := dg_iff.1 hc
      simp only [if_neg (show ¬ (c.toNat : Int) < 48 by omega), if_neg (show ¬ (c.toNat : Int) > 57 by omega)]
      have hp : (10 : Int) ^ pre.length ≤ 10 ^ 12 := pow10_le (by omega)
      have e12 : (10 : Int) ^ 12 = 1000000000000 := by decide
      rw [wrap_id (x := a * 10) (by omega) (by omega), show ((c.toNat : Int) - 48) % 256 = (c.toNat : Int) - 48 by omega, wrap_id (x := a * 10 + ((c.toNat : Int) - 48)) (by omega) (by omega), wrap_id (x := (pre.length : Int) + 1) (by omega) (by omega)]
      have e : pre ++ c :: rest = (pre ++ [c]) ++ rest := by rw [List.append_assoc]; rfl
      have := ih (pre ++ [c]) (a * 10 + ((c.toNat : Int) - 48)) (by rw [← e]; exact h) (by rw [← e, List.length_append, List.length_cons]; omega) (by omega) (by rw [List.length_append, List.length_singleton, Int.pow_succ]; omega)
      rw [List.length_append, List.length_singleton] at this
      simp only [List.all_cons, hc, Bool.true_and, vald]
      exact this
    · have hc' : dg c = false := by simpa using hc
      simp only [List.all_cons, hc', Bool.false_and, if_neg Bool.false_ne_true]
      rcases byte_dg.2 hc' with h1 | h1
      · simp only [if_pos h1]; exact Ev.now _
      · simp only [if_neg (show ¬ (c.toNat : Int) < 48 by omega), if_pos h1]; exact Ev.now _
theorem number_ev {s : ByteArray} {l : List UInt8} {m : Int} (h : s.data.toList = l) (hm : 1 ≤ m ∧ m ≤ 12) : Ev (fun k => impl_number.f k s m) (IN m l) := by
  obtain ⟨t, et, ht⟩ := prefix_eq h
  have hs := size_ls ht
  unfold impl_number.f
  simp only [et, Option.bind_some]
  have bad : ∀ ng, IN m l = (0, false) → Ev (fun k => impl_number.j0 k t ng true) (IN m l) := by
    intro ng e
    rw [e]
    refine Ev.step (fun k => by rw [impl_number.j0]) ?_
    simp only [if_true]; exact Ev.now _
  have no : ∀ w : (numOk (negT l).2 && decide (((negT l).2.length : Int) ≤ m) && !((negT l).1 && (negT l).2.head? == some 48)) = false, IN m l = (0, false) := by
    intro w
    unfold IN
    rw [if_neg (by rw [w]; simp)]
  have good : (negT l).2 ≠ [] → ((negT l).2.length : Int) ≤ m → ((negT l).2.length ≤ 1 ∨ (negT l).2.head? ≠ some 48) → ((negT l).1 && (negT l).2.head? == some 48) = false → Ev (fun k => impl_number.j0 k t (negT l).1 false) (IN m l) := by
    intro h0 h1 h2 h3
    refine Ev.step (fun k => by rw [impl_number.j0]) ?_
    simp only [if_neg Bool.false_ne_true]
    have := number_l (negT l).1 (rfl : (t.size : Int) = t.size) (negT l).2 [] 0 ht (by rw [List.nil_append]; omega) (by omega) (by simp)
    refine ev_eq this ?_
    by_cases hd : (negT l).2.all dg = true
    · unfold IN
      have hw : (numOk (negT l).2 && decide (((negT l).2.length : Int) ≤ m) && !((negT l).1 && (negT l).2.head? == some 48)) = true := by rw [numOk_iff.2 ⟨h0, hd, h2⟩, decide_eq_true h1, h3]; rfl
      rw [if_pos hd, hw, if_pos rfl]
    · rw [if_neg hd]
      refine (no ?_).symm
      have : numOk (negT l).2 = false := by
        rw [← Bool.not_eq_true]; intro z; exact hd (numOk_iff.1 z).2.1
      rw [this]; rfl
  have hemp : t.toList = ([] : List UInt8) ↔ (negT l).2 = [] := by rw [Go.Lib.toList_data, ht]
  by_cases h0 : (negT l).2 = []
  · simp only [if_pos (hemp.2 h0)]
    exact bad _ (no (by rw [h0]; rfl))
  · simp only [if_neg (fun z => h0 (hemp.1 z))]
    have hl0 : 0 < (negT l).2.length := List.length_pos_iff.2 h0
    by_cases h1 : (t.size : Int) > m
    · simp only [if_pos h1]
      exact bad _ (no (by rw [decide_eq_false (show ¬ ((negT l).2.length : Int) ≤ m by omega), Bool.and_false, Bool.false_and]))
    · simp only [if_neg h1, if_pos (show 0 < (t.size : Int) by omega)]
      obtain ⟨c, r, hcr⟩ : ∃ c r, (negT l).2 = c :: r := by
        cases hx : (negT l).2 with
        | nil => exact absurd hx h0
        | cons c r => exact ⟨c, r, rfl⟩
      have hb := bt_ls (pre := []) (rest := r) (c := c) (by rw [ht, hcr]; rfl)
      rw [show (([] : List UInt8).length : Int) = 0 from rfl] at hb
      have hhead : (negT l).2.head? = some c := by rw [hcr]; rfl
      rw [hb]
      by_cases hc : c = 48
      · have h48 : ((negT l).2.head? == some 48) = true := by rw [hhead, hc]; rfl
        simp only [if_pos (show (c.toNat : Int) = 48 by rw [hc]; rfl)]
        by_cases h2 : (t.size : Int) > 1
        · simp only [if_pos h2]
          refine bad _ (no ?_)
          have : numOk (negT l).2 = false := by
            rw [← Bool.not_eq_true]; intro z
            rcases (numOk_iff.1 z).2.2 with w | w
            · omega
            · exact w (by rw [hhead, hc])
          rw [this]; rfl
        · simp only [if_neg h2]
          by_cases hg : (negT l).1 = true
          · have := bad (negT l).1 (no (by rw [hg, h48]; simp))
            rw [hg] at this ⊢
            exact this
          · have hg' : (negT l).1 = false := by simpa using hg
            have := good h0 (by omega) (.inl (by omega)) (by rw [hg']; rfl)
            rw [hg'] at this ⊢
            exact this
      · have hne : (negT l).2.head? ≠ some 48 := by rw [hhead]; intro z; exact hc (Option.some.inj z)
        have h48 : ((negT l).2.head? == some 48) = false := beq_eq_false_iff_ne.2 hne
        simp only [if_neg (show ¬ (c.toNat : Int) = 48 from fun z => hc (UInt8.toNat_inj.1 (show c.toNat = (48 : UInt8).toNat by have e : (48 : UInt8).toNat = 48 := rfl; omega)))]
        exact good h0 (by omega) (.inr hne) (by rw [h48, Bool.and_false])
theorem indexByte_no {c : UInt8} : ∀ l : List UInt8, c ∉ l → Go.Lib.indexByte l c = -1 := by
  intro l
  induction l with
  | nil => intro _; rfl
  | cons b r ih =>
    intro h
    rw [List.mem_cons, not_or] at h
    unfold Go.Lib.indexByte
    rw [if_neg (by simpa using fun z : b = c => h.1 z.symm), if_pos (by rw [ih h.2]; rfl)]
theorem indexByte_at {c : UInt8} : ∀ (a b : List UInt8), c ∉ a → Go.Lib.indexByte (a ++ c :: b) c = a.length := by
  intro a
  induction a with
  | nil => intro b _; unfold Go.Lib.indexByte; rw [List.nil_append]; simp
  | cons x a ih =>
    intro b h
    rw [List.mem_cons, not_or] at h
    have e := ih b h.2
    rw [List.cons_append]
    unfold Go.Lib.indexByte
    rw [if_neg (by simpa using fun z : x = c => h.1 z.symm), e, if_neg (by rw [beq_iff_eq]; omega), List.length_cons]
    omega
theorem first_of {c : UInt8} {l : List UInt8} (h : c ∈ l) : ∃ a b, l = a ++ c :: b ∧ c ∉ a := by
  induction l with
  | nil => exact absurd h (by simp)
  | cons x l ih =>
    by_cases hx : x = c
    · exact ⟨[], l, by rw [hx]; rfl, by simp⟩
    · rcases List.mem_cons.1 h with h | h
      · exact absurd h.symm hx
      · obtain ⟨a, b, e, hn⟩ := ih h
        refine ⟨x :: a, b, by rw [e]; rfl, ?_⟩
        rw [List.mem_cons, not_or]
        exact ⟨fun z => hx z.symm, hn⟩
theorem index_ev {s : ByteArray} {l : List UInt8} {c : UInt8} (h : s.data.toList = l) : Ev (fun k => stringslite_Index.f k s (⟨#[c]⟩ : ByteArray)) (Go.Lib.indexByte l c) := by
  have h1 : ((⟨#[c]⟩ : ByteArray).size : Int) = 1 := rfl
  have hl : (⟨#[c]⟩ : ByteArray).toList = [c] := by rw [Go.Lib.toList_data]
  have hb : bt (⟨#[c]⟩ : ByteArray) 0 = (c.toNat : Int) := by
    have := bt_ls (s := ⟨#[c]⟩) (pre := []) (rest := []) (c := c) rfl
    exact this
  unfold stringslite_Index.f
  rw [h1]
  simp only [if_neg (show ¬ (1 : Int) = 0 by omega)]
  rw [hl, Go.Lib.toList_data, h]
  by_cases hx : [c] = l
  · rw [show ([c] == l) = true from beq_iff_eq.2 hx]
    refine Ev.step (fun k => by rw [stringslite_Index.j0]) ?_
    simp only [if_true]
    refine ev_some ?_
    rw [← hx]
    have := indexByte_at (c := c) [] [] (by simp)
    rw [List.nil_append] at this
    rw [this]; rfl
  · rw [show ([c] == l) = false from beq_eq_false_iff_ne.2 hx]
    refine Ev.step (fun k => by rw [stringslite_Index.j0]) ?_
    simp only [if_neg Bool.false_ne_true, if_true, h1, if_pos (show (0 : Int) < 1 by omega), stringslite_IndexByte.f, bytealg_IndexByteString.f, Option.bind_some, hb]
    refine ev_some ?_
    rw [h]
    congr 1
    simp
theorem cut_ev {s : ByteArray} {l : List UInt8} {c : UInt8} (h : s.data.toList = l) (hl : l.length ≤ 2000000) :
    ∃ r : ByteArray × ByteArray × Bool, Ev (fun k => strings_Cut.f k s (⟨#[c]⟩ : ByteArray)) r ∧ ((c ∉ l ∧ r.1.data.toList = l ∧ r.2.1.data.toList = []) ∨ ∃ a b, l = a ++ c :: b ∧ c ∉ a ∧ r.1.data.toList = a ∧ r.2.1.data.toList = b) := by
  have hs := size_ls h
  have h1 : ((⟨#[c]⟩ : ByteArray).size : Int) = 1 := rfl
  by_cases hc : c ∈ l
  · obtain ⟨a, b, e, hn⟩ := first_of hc
    have hx : Go.Lib.indexByte l c = a.length := by rw [e]; exact indexByte_at a b hn
    have hla : l.length = a.length + (b.length + 1) := by rw [e, List.length_append, List.length_cons]
    refine ⟨(s.extract 0 ((a.length : Int)).toNat, s.extract (((a.length : Int) + 1)).toNat s.size, true), ?_, .inr ⟨a, b, e, hn, ?_, ?_⟩⟩
    · unfold strings_Cut.f
      have : Ev (fun k => stringslite_Cut.f k s (⟨#[c]⟩ : ByteArray)) (s.extract 0 ((a.length : Int)).toNat, s.extract (((a.length : Int) + 1)).toNat s.size, true) := by
        unfold stringslite_Cut.f
        rw [bnd (index_ev h), hx, h1, wrap_id (x := (a.length : Int) + 1) (by omega) (by omega)]
        simp only [if_pos (show (a.length : Int) ≥ 0 by omega), if_pos (show (0 : Int) ≤ (a.length : Int) by omega), if_pos (show (a.length : Int) ≤ (s.size : Int) by omega), if_pos (show (0 : Int) ≤ (a.length : Int) + 1 by omega), if_pos (show (a.length : Int) + 1 ≤ (s.size : Int) by omega)]
        exact Ev.now _
      rw [bnd this]; exact Ev.now _
    · show (s.extract 0 ((a.length : Int)).toNat).data.toList = a
      rw [Go.Lib.extract_data, h, e, List.drop_zero, Int.toNat_natCast, Nat.sub_zero, List.take_left']
      rfl
    · show (s.extract (((a.length : Int) + 1)).toNat s.size).data.toList = b
      rw [Go.Lib.extract_to_end, h, e, show (((a.length : Int) + 1)).toNat = a.length + 1 by omega, ← List.drop_drop, List.drop_left' rfl]
      rfl
  · have hx := indexByte_no l hc
    refine ⟨(s, (⟨#[]⟩ : ByteArray), false), ?_, .inl ⟨hc, h, rfl⟩⟩
    unfold strings_Cut.f
    have : Ev (fun k => stringslite_Cut.f k s (⟨#[c]⟩ : ByteArray)) (s, (⟨#[]⟩ : ByteArray), false) := by
      unfold stringslite_Cut.f
      rw [bnd (index_ev h), hx]
      simp only [if_neg (show ¬ (-1 : Int) ≥ 0 by omega)]
      exact Ev.now _
    rw [bnd this]; exact Ev.now _
def spl (c : UInt8) : List UInt8 → List UInt8 → List (List UInt8)
  | cur, [] => [cur]
  | cur, b :: r => if b = c then cur :: spl c [] r else spl c (cur ++ [b]) r
theorem spl_no {c : UInt8} : ∀ (l cur : List UInt8), c ∉ l → spl c cur l = [cur ++ l] := by
  intro l
  induction l with
  | nil => intro cur _; rw [spl, List.append_nil]
  | cons b r ih =>
    intro cur h
    rw [List.mem_cons, not_or] at h
    rw [spl, if_neg (fun z => h.1 z.symm), ih _ h.2, List.append_assoc]; rfl
theorem spl_at {c : UInt8} (b : List UInt8) : ∀ (a cur : List UInt8), c ∉ a → spl c cur (a ++ c :: b) = (cur ++ a) :: spl c [] b := by
  intro a
  induction a with
  | nil => intro cur _; rw [List.nil_append, spl, if_pos rfl, List.append_nil]
  | cons x a ih =>
    intro cur h
    rw [List.mem_cons, not_or] at h
    rw [List.cons_append, spl, if_neg (fun z => h.1 z.symm), ih _ h.2, List.append_assoc]; rfl
theorem spl_pos {c : UInt8} (l : List UInt8) : 1 ≤ (spl c [] l).length := by
  by_cases h : c ∈ l
  · obtain ⟨a, b, e, hn⟩ := first_of h
    rw [e, spl_at b a [] hn, List.length_cons]; omega
  · rw [spl_no l [] h]; simp
theorem spl_two {c : UInt8} {l : List UInt8} (h : c ∈ l) : 2 ≤ (spl c [] l).length := by
  obtain ⟨a, b, e, hn⟩ := first_of h
  rw [e, spl_at b a [] hn, List.length_cons]
  have := spl_pos (c := c) b
  omega
theorem split_l {s : ByteArray} {c : UInt8} : ∀ (rest pre cur : List UInt8) (acc : List ByteArray), s.data.toList = pre ++ (cur ++ rest) → s.data.toList.length ≤ 2000000 → acc.length + rest.length ≤ 2000000 →
    ∃ r : List ByteArray, Ev (fun k => spec_l01Split.l0 k s (c.toNat : Int) acc pre.length ((pre ++ cur).length : Int)) r ∧ r.map (·.data.toList) = acc.map (·.data.toList) ++ spl c cur rest := by
  intro rest
  induction rest with
  | nil =>
    intro pre cur acc h hl ha
    have hs := size_ls h
    rw [List.append_nil] at h hs
    rw [h] at hl
    rw [List.length_append] at hs hl
    refine ⟨acc ++ [s.extract ((pre.length : Int)).toNat s.size], Ev.step (fun k => by rw [spec_l01Split.l0]) ?_, ?_⟩
    · rw [List.length_append]
      simp only [if_neg (show ¬ ((pre.length + cur.length : Nat) : Int) < (s.size : Int) by omega), if_pos (show (0 : Int) ≤ pre.length by omega), if_pos (show (pre.length : Int) ≤ (s.size : Int) by omega), if_pos (show acc.length < 8796093022208 by omega)]
      exact Ev.now _
    · rw [List.map_append, spl]
      congr 1
      show [(s.extract ((pre.length : Int)).toNat s.size).data.toList] = [cur]
      rw [Go.Lib.extract_to_end, h, Int.toNat_natCast, List.drop_left' rfl]
  | cons b rest ih =>
    intro pre cur acc h hl ha
    have hs := size_ls h
    have hl' := hl
    rw [h] at hl'
    simp only [List.length_append, List.length_cons] at hs hl' ha
    have hb := bt_ls (pre := pre ++ cur) (rest := rest) (c := b) (by rw [h, List.append_assoc])
    by_cases hc : b = c
    · have hq : s.data.toList = (pre ++ cur ++ [b]) ++ ([] ++ rest) := by rw [h]; simp
      obtain ⟨r, er, hr⟩ := ih (pre ++ cur ++ [b]) [] (acc ++ [s.extract ((pre.length : Int)).toNat (((pre ++ cur).length : Int)).toNat]) hq hl (by rw [List.length_append, List.length_singleton]; omega)
      refine ⟨r, Ev.step (fun k => by rw [spec_l01Split.l0]) ?_, ?_⟩
      · simp only [hb]
        rw [List.append_nil, (List.length_append : (pre ++ cur ++ [b]).length = (pre ++ cur).length + [b].length), List.length_singleton] at er
        simp only [List.length_append] at er ⊢
        simp only [if_pos (show ((pre.length + cur.length : Nat) : Int) < (s.size : Int) by omega), if_pos (show (0 : Int) ≤ ((pre.length + cur.length : Nat) : Int) by omega), if_pos (show (b.toNat : Int) = (c.toNat : Int) by rw [hc]), if_pos (show (0 : Int) ≤ pre.length by omega), if_pos (show (pre.length : Int) ≤ ((pre.length + cur.length : Nat) : Int) by omega), if_pos (show ((pre.length + cur.length : Nat) : Int) ≤ (s.size : Int) by omega), if_pos (show acc.length < 8796093022208 by omega)]
        rw [wrap_id (x := ((pre.length + cur.length : Nat) : Int) + 1) (by omega) (by omega)]
        exact er
      · rw [hr, List.map_append, List.append_assoc, spl, if_pos hc]
        congr 1
        show [(s.extract ((pre.length : Int)).toNat (((pre ++ cur).length : Int)).toNat).data.toList] ++ spl c [] rest = cur :: spl c [] rest
        rw [Go.Lib.extract_data, h, Int.toNat_natCast, Int.toNat_natCast, List.drop_left' rfl, List.length_append, show pre.length + cur.length - pre.length = cur.length by omega, List.take_left' rfl]
        rfl
    · obtain ⟨r, er, hr⟩ := ih pre (cur ++ [b]) acc (by rw [h]; simp) hl (by omega)
      refine ⟨r, Ev.step (fun k => by rw [spec_l01Split.l0]) ?_, by rw [hr, spl, if_neg hc]⟩
      simp only [hb]
      simp only [List.length_append, List.length_singleton] at er ⊢
      simp only [if_pos (show ((pre.length + cur.length : Nat) : Int) < (s.size : Int) by omega), if_pos (show (0 : Int) ≤ ((pre.length + cur.length : Nat) : Int) by omega), if_neg (show ¬ (b.toNat : Int) = (c.toNat : Int) from fun z => hc (UInt8.toNat_inj.1 (by omega)))]
      rw [wrap_id (x := ((pre.length + cur.length : Nat) : Int) + 1) (by omega) (by omega)]
      exact er
theorem split_ev {s : ByteArray} {l : List UInt8} {c : UInt8} (h : s.data.toList = l) (hl : l.length ≤ 2000000) :
    ∃ r : List ByteArray, Ev (fun k => spec_l01Split.f k s (c.toNat : Int)) r ∧ r.map (·.data.toList) = spl c [] l := by
  obtain ⟨r, er, hr⟩ := split_l (s := s) (c := c) l [] [] [] (by rw [h]; rfl) (by rw [h]; exact hl) (by simpa using hl)
  exact ⟨r, er, by simpa using hr⟩
theorem two_pieces {r : List ByteArray} {a b : List UInt8} (h : r.map (·.data.toList) = [a, b]) : ∃ x y : ByteArray, r = [x, y] ∧ x.data.toList = a ∧ y.data.toList = b := by
  match r, h with
  | [x, y], h => simp at h; exact ⟨x, y, rfl, h.1, h.2⟩
theorem IN_dig {m : Int} {l : List UInt8} (h : (IN m l).2 = true) : numOk (negT l).2 = true := by
  unfold IN at h
  split at h
  · rename_i z; simp only [Bool.and_eq_true] at z; exact z.1.1
  · exact absurd h (by simp)
theorem dig_in {l : List UInt8} (h : numOk l = true) {c : UInt8} (hc : c ∈ l) : dg c = true := by
  have := (numOk_iff.1 h).2.1
  rw [List.all_eq_true] at this
  exact this c hc
/-- A text that holds a sign which is neither a digit nor - is no number. -/
theorem IN_no {m : Int} {l : List UInt8} {c : UInt8} (hc : c ∈ l) (h1 : dg c = false) (h2 : c ≠ 45) : (IN m l).2 = false := by
  rw [← Bool.not_eq_true]
  intro h
  have hk := IN_dig h
  have : c ∈ (negT l).2 := by
    cases l with
    | nil => exact absurd hc (by simp)
    | cons x r =>
      by_cases hx : x = 45
      · rcases List.mem_cons.1 hc with z | z
        · exact absurd (z.trans hx) h2
        · simpa [negT, hx] using z
      · simpa [negT, hx] using hc
  have := dig_in hk this
  rw [h1] at this; exact absurd this (by simp)
theorem SN_SS {l : List UInt8} (h : 0 ≤ SN l) : SS l = (SN l, true) := by
  obtain ⟨k, _, _⟩ := SN_ok h
  have hn : (negT l).1 = false := by
    cases l with
    | nil => rfl
    | cons x r =>
      by_cases hx : x = 45
      · have := dig_in k (List.mem_cons_self ..)
        rw [hx] at this; exact absurd this (by decide)
      · simp [negT, hx]
  unfold SS
  rw [hn, if_neg (by simp), decide_eq_true (show SN l ≥ 0 by omega)]
theorem IN_SN {m : Nat} (hm : m ≤ 11) {l : List UInt8} {v : Int} (h : IN m l = (v, true)) (h0 : 1 ≤ v) : SN l = v := by
  have h1 := IN_SS hm h
  unfold SS at h1
  by_cases hn : (negT l).1 = true
  · rw [if_pos hn] at h1
    have a := (Prod.mk.inj h1).1
    have b := of_decide_eq_true (Prod.mk.inj h1).2
    omega
  · rw [if_neg hn] at h1
    exact (Prod.mk.inj h1).1
/-- What a text of an end tells, by the reference's rule. -/
def PEnd (l : List UInt8) : Int × Int × Int :=
  if l = [105, 110, 102] then (1, 0, 0) else
  match spl 47 [] l with
  | [a, b] => if (SS a).2 = true ∧ 1 ≤ SN b ∧ EndOk (SS a).1 (SN b) then ((SS a).1, SN b, 0) else (0, 0, 6)
  | _ => (0, 0, 6)
theorem specParseEnd_ev {s : ByteArray} {l : List UInt8} (h : s.data.toList = l) (hl : l.length ≤ 2000000) : Ev (fun k => spec_ParseEnd.f k s) (PEnd l) := by
  obtain ⟨r, er, hr⟩ := split_ev (c := 47) h hl
  rw [show (((47 : UInt8).toNat : Nat) : Int) = 47 from rfl] at er
  have hrl : r.length = (spl 47 [] l).length := by rw [← hr, List.length_map]
  unfold spec_ParseEnd.f
  have key : ∃ x, Ev (fun k => spec_l01ReadEnd.f k s) x ∧ (if x.2.2 = true then (x.1, x.2.1, (0 : Int)) else (0, 0, 6)) = PEnd l := by
    unfold spec_l01ReadEnd.f PEnd
    rw [Go.Lib.toList_data, h]
    by_cases hi : l = [105, 110, 102]
    · simp only [if_pos hi]
      exact ⟨_, Ev.now _, rfl⟩
    · simp only [if_neg hi]
      have none_ : ∀ z, z = ((0 : Int), (0 : Int), (6 : Int)) → r.length ≠ 2 → ∃ x : Int × Int × Bool, Ev (fun k => (spec_l01Split.f k s 47).bind fun t117 => (if (t117.length : Int) = 2 then (if 0 < (t117.length : Int) then ((spec_l01Signed.f k (rdOf ByteArray.empty t117 0)).bind fun bt121 => (if 1 < (t117.length : Int) then ((spec_l01Number.f k (rdOf ByteArray.empty t117 1)).bind fun t124 => (if bt121.2 = true then (if t124 < 1 then (some (0, 0, false)) else ((spec_l01End.f k bt121.1 t124).bind fun t126 => (if t126 = true then (some (bt121.1, t124, true)) else (some (0, 0, false))))) else (some (0, 0, false)))) else (none))) else (none)) else (some (0, 0, false)))) x ∧ (if x.2.2 = true then (x.1, x.2.1, (0 : Int)) else (0, 0, 6)) = z := by
        intro z hz h2
        refine ⟨(0, 0, false), ?_, by rw [hz]; rfl⟩
        rw [bnd er]
        simp only [if_neg (show ¬ (r.length : Int) = 2 by omega)]
        exact Ev.now _
      match hsp : spl 47 [] l, hrl with
      | [], hrl => exact none_ _ rfl (by simp only [List.length_cons, List.length_nil] at hrl; omega)
      | [a], hrl => exact none_ _ rfl (by simp only [List.length_cons, List.length_nil] at hrl; omega)
      | a :: b :: c :: d, hrl => exact none_ _ rfl (by simp only [List.length_cons, List.length_nil] at hrl; omega)
      | [a, b], hrl =>
        rw [hsp] at hr
        obtain ⟨x, y, rfl, hx, hy⟩ := two_pieces hr
        dsimp only
        have e0 : rdOf ByteArray.empty [x, y] 0 = x := rfl
        have e1 : rdOf ByteArray.empty [x, y] 1 = y := rfl
        by_cases hok : (SS a).2 = true ∧ 1 ≤ SN b ∧ EndOk (SS a).1 (SN b)
        · refine ⟨((SS a).1, SN b, true), ?_, by rw [if_pos hok]; rfl⟩
          rw [bnd er]
          simp only [show (([x, y] : List ByteArray).length : Int) = 2 from rfl, if_true, if_pos (show (0 : Int) < 2 by omega), if_pos (show (1 : Int) < 2 by omega), e0, e1]
          rw [bnd (l01Signed_ev hx), bnd (l01Number_ev hy)]
          simp only [if_pos hok.1, if_neg (show ¬ SN b < 1 by omega)]
          rw [bnd l01End_ev]
          simp only [decide_eq_true hok.2.2, if_true]
          exact Ev.now _
        · refine ⟨(0, 0, false), ?_, by rw [if_neg hok]; rfl⟩
          rw [bnd er]
          simp only [show (([x, y] : List ByteArray).length : Int) = 2 from rfl, if_true, if_pos (show (0 : Int) < 2 by omega), if_pos (show (1 : Int) < 2 by omega), e0, e1]
          rw [bnd (l01Signed_ev hx), bnd (l01Number_ev hy)]
          by_cases h1 : (SS a).2 = true
          · simp only [if_pos h1]
            by_cases h2 : SN b < 1
            · simp only [if_pos h2]; exact Ev.now _
            · simp only [if_neg h2]
              rw [bnd l01End_ev]
              have h3 : ¬ EndOk (SS a).1 (SN b) := fun z => hok ⟨h1, by omega, z⟩
              simp only [decide_eq_false h3, if_neg Bool.false_ne_true]
              exact Ev.now _
          · simp only [if_neg h1]; exact Ev.now _
  obtain ⟨x, ex, hx⟩ := key
  rw [bnd ex, ← hx]
  by_cases hz : x.2.2 = true
  · simp only [if_pos hz]; exact Ev.now _
  · simp only [if_neg hz]; exact Ev.now _
theorem end_small {n d : Int} (h : EndOk n d) : -1000000 ≤ n ∧ n ≤ 1000000 ∧ d ≤ 1000000 ∧ (d = 0 ∨ 1 ≤ d) := by
  unfold EndOk at h
  split at h <;> omega
theorem implParseEnd_ev {s : ByteArray} {l : List UInt8} (h : s.data.toList = l) (hl : l.length ≤ 2000000) : Ev (fun k => impl_ParseEnd.f k s) (PEnd l) := by
  obtain ⟨r, er, hr⟩ := cut_ev (c := 47) h hl
  unfold impl_ParseEnd.f
  rw [Go.Lib.toList_data, h]
  by_cases hi : l = [105, 110, 102]
  · simp only [if_pos hi]
    refine ev_some ?_
    unfold PEnd; rw [if_pos hi]
  · simp only [if_neg hi]
    rw [bnd er]
    -- what the two pieces tell
    have go : ∀ a b : List UInt8, r.1.data.toList = a → r.2.1.data.toList = b → ((IN 9 a).2 = true ∧ (IN 9 b).2 = true ∧ (IN 9 b).1 ≠ 0 ∧ EndOk (IN 9 a).1 (IN 9 b).1 → PEnd l = ((IN 9 a).1, (IN 9 b).1, 0)) →
        (¬ ((IN 9 a).2 = true ∧ (IN 9 b).2 = true ∧ (IN 9 b).1 ≠ 0 ∧ EndOk (IN 9 a).1 (IN 9 b).1) → PEnd l = (0, 0, 6)) →
        Ev (fun k => (impl_number.f k r.1 9).bind fun bt156 => ((impl_number.f k r.2.1 9).bind fun bt158 => (if bt156.2 = true then (if bt158.2 = true then (if bt158.1 = 0 then (some (0, 0, 6)) else ((impl_IsEnd.f k bt156.1 bt158.1).bind fun t161 => (if t161 = true then (some (bt156.1, bt158.1, 0)) else (some (0, 0, 6))))) else (some (0, 0, 6))) else (some (0, 0, 6))))) (PEnd l) := by
      intro a b ha hb hy hn
      rw [bnd (number_ev ha (by omega)), bnd (number_ev hb (by omega))]
      by_cases h1 : (IN 9 a).2 = true
      · simp only [if_pos h1]
        by_cases h2 : (IN 9 b).2 = true
        · simp only [if_pos h2]
          by_cases h3 : (IN 9 b).1 = 0
          · simp only [if_pos h3]
            exact ev_some (hn (fun z => z.2.2.1 h3)).symm
          · simp only [if_neg h3]
            rw [bnd IsEnd_ev]
            by_cases h4 : EndOk (IN 9 a).1 (IN 9 b).1
            · simp only [decide_eq_true h4, if_true]
              exact ev_some (hy ⟨h1, h2, h3, h4⟩).symm
            · simp only [decide_eq_false h4, if_neg Bool.false_ne_true]
              exact ev_some (hn (fun z => h4 z.2.2.2)).symm
        · simp only [if_neg h2]
          exact ev_some (hn (fun z => h2 z.2.1)).symm
      · simp only [if_neg h1]
        exact ev_some (hn (fun z => h1 z.1)).symm
    rcases hr with ⟨hc, ha, hb⟩ | ⟨a, b, hab, hna, ha, hb⟩
    · have hP : PEnd l = (0, 0, 6) := by unfold PEnd; rw [if_neg hi, spl_no l [] hc]
      refine go l [] ha hb (fun z => ?_) (fun _ => hP)
      exact absurd z.2.1 (by decide)
    · by_cases hcb : (47 : UInt8) ∈ b
      · have hP : PEnd l = (0, 0, 6) := by
          unfold PEnd
          rw [if_neg hi, hab, spl_at b a [] hna]
          have h2 := spl_two hcb
          match hs : spl 47 [] b, h2 with
          | x :: y :: t, _ => rfl
          | [x], h2 => simp at h2
          | [], h2 => simp at h2
        refine go a b ha hb (fun z => ?_) (fun _ => hP)
        have := IN_no (m := 9) hcb (by decide) (by decide)
        rw [this] at z; exact absurd z.2.1 (by simp)
      · have hsp : spl 47 [] l = [a, b] := by rw [hab, spl_at b a [] hna, spl_no b [] hcb, List.nil_append, List.nil_append]
        refine go a b ha hb (fun z => ?_) (fun z => ?_)
        · obtain ⟨z1, z2, z3, z4⟩ := z
          have ea : IN ((9 : Nat) : Int) a = ((IN 9 a).1, true) := by rw [← z1]; rfl
          have eb : IN ((9 : Nat) : Int) b = ((IN 9 b).1, true) := by rw [← z2]; rfl
          have hsm := end_small z4
          have sa := IN_SS (by omega) ea
          have sb := IN_SN (by omega) eb (by omega)
          unfold PEnd
          rw [if_neg hi, hsp]
          dsimp only
          rw [sa, sb, if_pos ⟨rfl, by omega, z4⟩]
        · unfold PEnd
          rw [if_neg hi, hsp]
          dsimp only
          by_cases hok : (SS a).2 = true ∧ 1 ≤ SN b ∧ EndOk (SS a).1 (SN b)
          · exfalso
            obtain ⟨k1, k2, k3⟩ := hok
            have hsm := end_small k3
            have e9 : (10 : Int) ^ 9 = 1000000000 := by decide
            have ea := SS_IN (m := 9) (by omega) (l := a) (v := (SS a).1) (by rw [← k1]) (by omega) (by omega)
            have eb := SS_IN (m := 9) (by omega) (SN_SS (l := b) (by omega)) (by rw [e9]; omega) (by rw [e9]; omega)
            rw [show (((9 : Nat) : Int)) = 9 from rfl] at ea eb
            exact z (by rw [ea, eb]; exact ⟨rfl, rfl, (show SN b ≠ 0 by omega), k3⟩)
          · rw [if_neg hok]
theorem FnExactParseEnd : laws_FnExactParseEnd.Pure := by
  intro a0 w0
  refine Ev.rounds (g := fun k => laws_FnExactParseEnd.f k a0) ?_
  unfold laws_FnExactParseEnd.f
  by_cases hbig : (a0.size : Int) > 1048576
  · simp only [if_pos hbig]; exact Ev.now _
  · simp only [if_neg hbig]
    have hl : a0.data.toList.length ≤ 2000000 := by rw [← Go.Lib.size_eq]; omega
    rw [bnd (specParseEnd_ev rfl hl), bnd (implParseEnd_ev rfl hl)]
    simp only [laws_eqEnd.f, if_true, Option.bind_some]
    exact Ev.now _

end Go.Proofs.Ytgdkmchphpjifaa.Pure

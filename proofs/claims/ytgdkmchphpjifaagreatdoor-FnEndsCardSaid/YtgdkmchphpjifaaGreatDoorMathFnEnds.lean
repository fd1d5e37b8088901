/- Plain numbers: primes, powers, valuations, balls by their marks, inverses. No program. -/
import Derived.Test.YtgdkmchphpjifaaGreatDoorVFnEnds
import Derived.RowKit
import Derived.Laws.BitsLemmas
namespace Go.Proofs.YtgdkmchphpjifaaGreatDoor.Math
open Go.RowKit Go.Proofs.YtgdkmchphpjifaaGreatDoorW.PrintWords Go.Proofs.YtgdkmchphpjifaaGreatDoorW.PrintMore
set_option linter.unusedVariables false
set_option linter.unusedSimpArgs false
/-! ### numbers of 64 bits, and rounds -/
theorem wrap_id {x : Int} (h0 : -9223372036854775808 ≤ x) (h1 : x ≤ 9223372036854775807) : wrap64 x = x := by
 unfold wrap64; omega
theorem bnd {α β : Type} {f : Nat → Option α} {a : α} (h : Ev f a) {g : Nat → α → Option β} {r : β} :
  Ev (fun k => (f k).bind (g k)) r ↔ Ev (fun k => g k a) r := by
 constructor
 ·rintro ⟨K, hK⟩
  obtain ⟨K', hK'⟩ := h
  refine ⟨max K K', fun n hn => ?_⟩
  have h1 := hK n (by omega)
  simp only [hK' n (by omega), Option.bind_some] at h1
  exact h1
 ·exact fun k => Ev.bind h k
theorem ev_eq {α : Type} {f : Nat → Option α} {r s : α} (h : Ev f r) (e : r = s) : Ev f s := e ▸ h
theorem ev_some {α : Type} {r s : α} (e : r = s) : Ev (fun _ => some r) s := e ▸ Ev.now r
theorem ev_dec {b : Bool} {c : Prop} [Decidable c] (h : b = true ↔ c) : Ev (fun _ => some b) (decide c) := by
 have : b = decide c := by
  by_cases hc : c
  ·rw [h.2 hc, decide_eq_true hc]
  ·rw [decide_eq_false hc]
   cases b with
   | true => exact absurd (h.1 rfl) hc
   | false => rfl
 exact ev_some this
/-! ### the primes -/
def IsP (p : Int) : Prop := p = 2 ∨ p = 3 ∨ p = 5 ∨ p = 7
instance (p : Int) : Decidable (IsP p) := by unfold IsP; infer_instance
theorem IsP.two_le {p : Int} (h : IsP p) : 2 ≤ p := by unfold IsP at h; omega
theorem IsP.le_seven {p : Int} (h : IsP p) : p ≤ 7 := by unfold IsP at h; omega
theorem IsP.pos {p : Int} (h : IsP p) : 0 < p := by unfold IsP at h; omega
theorem IsP.ne {p : Int} (h : IsP p) : p ≠ 0 := by unfold IsP at h; omega

theorem IsP.dvd_mul {p a b : Int} (h : IsP p) (hd : p ∣ a * b) : p ∣ a ∨ p ∣ b := by
 have key : ∀ (q : Int), IsP q → (a % q) * (b % q) % q = 0 → a % q = 0 ∨ b % q = 0 := by
  intro q hq h0
  have ha0 := Int.emod_nonneg a hq.ne
  have ha1 := Int.emod_lt_of_pos a hq.pos
  have hb0 := Int.emod_nonneg b hq.ne
  have hb1 := Int.emod_lt_of_pos b hq.pos
  generalize a % q = x at *
  generalize b % q = y at *
  rcases hq with rfl | rfl | rfl | rfl
  ·have hx : x = 0 ∨ x = 1 := by omega
   rcases hx with rfl | rfl <;> omega
  ·have hx : x = 0 ∨ x = 1 ∨ x = 2 := by omega
   rcases hx with rfl | rfl | rfl <;> omega
  ·have hx : x = 0 ∨ x = 1 ∨ x = 2 ∨ x = 3 ∨ x = 4 := by omega
   rcases hx with rfl | rfl | rfl | rfl | rfl <;> omega
  ·have hx : x = 0 ∨ x = 1 ∨ x = 2 ∨ x = 3 ∨ x = 4 ∨ x = 5 ∨ x = 6 := by omega
   rcases hx with rfl | rfl | rfl | rfl | rfl | rfl | rfl <;> omega
 have h0 : (a % p) * (b % p) % p = 0 := by
  rw [← Int.mul_emod]; exact Int.emod_eq_zero_of_dvd hd
 rcases key p h h0 with h1 | h1
 ·exact .inl (Int.dvd_of_emod_eq_zero h1)
 ·exact .inr (Int.dvd_of_emod_eq_zero h1)

/-! ### powers -/
theorem pow_pos' {p : Int} (h : IsP p) (n : Nat) : 0 < p ^ n := Int.pow_pos h.pos
theorem pow_ne' {p : Int} (h : IsP p) (n : Nat) : p ^ n ≠ 0 := Int.ne_of_gt (pow_pos' h n)
theorem pow_succ_le {p : Int} (h : IsP p) (n : Nat) : 2 * p ^ n ≤ p ^ (n + 1) := by
 rw [Int.pow_succ]
 have h1 := pow_pos' h n
 have h2 := h.two_le
 have := Int.mul_le_mul_of_nonneg_left h2 (Int.le_of_lt h1)
 omega
theorem pow_lt_succ {p : Int} (h : IsP p) (n : Nat) : p ^ n < p ^ (n + 1) := by
 have := pow_succ_le h n
 have := pow_pos' h n
 omega
theorem pow_mono {p : Int} (h : IsP p) {m n : Nat} (hmn : m ≤ n) : p ^ m ≤ p ^ n := by
 induction hmn with
 | refl => exact Int.le_refl _
 | step _ ih => exact Int.le_trans ih (Int.le_of_lt (pow_lt_succ h _))
theorem pow_le_base {p q : Int} (h0 : 0 ≤ p) (h : p ≤ q) (n : Nat) : p ^ n ≤ q ^ n := by
 induction n with
 | zero => simp
 | succ n ih =>
  rw [Int.pow_succ, Int.pow_succ]
  exact Int.mul_le_mul ih h h0 (Int.pow_nonneg (by omega))
theorem pow_le_seven {p : Int} (h : IsP p) {m n : Nat} (hmn : m ≤ n) : p ^ m ≤ 7 ^ n :=
 Int.le_trans (pow_le_base (Int.le_of_lt h.pos) h.le_seven m) (pow_mono (p := 7) (by unfold IsP; omega) hmn)
theorem pow_le_22 {p : Int} (h : IsP p) {n : Nat} (hn : n ≤ 22) : p ^ n ≤ 3909821048582988049 := by
 have := pow_le_seven h hn
 simpa using this
theorem pow_dvd {p : Int} {m n : Nat} (hmn : m ≤ n) : p ^ m ∣ p ^ n := by
 obtain ⟨d, rfl⟩ := Nat.exists_eq_add_of_le hmn
 exact ⟨p ^ d, Int.pow_add _ _ _⟩

/-! ### valuations -/
def vl (p n : Int) : Nat := if h : 1 < p ∧ n ≠ 0 ∧ p ∣ n then vl p (n / p) + 1 else 0
termination_by n.natAbs
decreasing_by
 obtain ⟨h1, h2, k, rfl⟩ := h
 have hp : p ≠ 0 := by omega
 rw [Int.mul_ediv_cancel_left _ hp, Int.natAbs_mul]
 have hk : k ≠ 0 := by intro e; apply h2; simp [e]
 have h3 : 0 < k.natAbs := by omega
 have h4 : 2 ≤ p.natAbs := by omega
 have := Nat.mul_le_mul_right k.natAbs h4
 omega

theorem vl_of_not {p n : Int} (h : ¬ p ∣ n) : vl p n = 0 := by
 rw [vl]; simp [h]
theorem vl_mul_p {p n : Int} (h : IsP p) (hn : n ≠ 0) : vl p (p * n) = vl p n + 1 := by
 rw [vl, dif_pos ⟨by have := h.two_le; omega, Int.mul_ne_zero h.ne hn, Int.dvd_mul_right _ _⟩, Int.mul_ediv_cancel_left _ h.ne]

theorem vl_split {p : Int} (h : IsP p) : ∀ (n : Int), n ≠ 0 → ∃ u, n = p ^ vl p n * u ∧ ¬ p ∣ u ∧ u ≠ 0 := by
 have key : ∀ (m : Nat) (n : Int), n.natAbs ≤ m → n ≠ 0 → ∃ u, n = p ^ vl p n * u ∧ ¬ p ∣ u ∧ u ≠ 0 := by
  intro m
  induction m with
  | zero => intro n h1 h2; omega
  | succ m ih =>
   intro n h1 h2
   by_cases hd : p ∣ n
   ·obtain ⟨k, rfl⟩ := hd
    have hk : k ≠ 0 := by intro e; apply h2; simp [e]
    have hlt : k.natAbs ≤ m := by
     rw [Int.natAbs_mul] at h1
     have h3 : 0 < k.natAbs := by omega
     have h4 : 2 ≤ p.natAbs := by have := h.two_le; omega
     have := Nat.mul_le_mul_right k.natAbs h4
     omega
    obtain ⟨u, hu, hnd, hu0⟩ := ih k hlt hk
    refine ⟨u, ?_, hnd, hu0⟩
    rw [vl_mul_p h hk, Int.pow_succ]
    have : p * k = p * (p ^ vl p k * u) := by rw [← hu]
    rw [this, Int.mul_comm (p ^ vl p k) p, Int.mul_assoc]
   ·exact ⟨n, by simp [vl_of_not hd], hd, h2⟩
 exact fun n hn => key n.natAbs n (Nat.le_refl _) hn

theorem vl_pow_mul {p u : Int} (h : IsP p) (hu : u ≠ 0) (v : Nat) : vl p (p ^ v * u) = v + vl p u := by
 induction v with
 | zero => simp
 | succ v ih =>
  rw [Int.pow_succ, Int.mul_comm (p ^ v) p, Int.mul_assoc, vl_mul_p h (Int.mul_ne_zero (pow_ne' h v) hu), ih]
  omega
theorem vl_unit {p u : Int} (h : IsP p) (v : Nat) (hu : ¬ p ∣ u) : vl p (p ^ v * u) = v := by
 have hu0 : u ≠ 0 := by rintro rfl; exact hu (Int.dvd_zero _)
 rw [vl_pow_mul h hu0, vl_of_not hu]; rfl
theorem vl_pow {p : Int} (h : IsP p) (v : Nat) : vl p (p ^ v) = v := by
 have h1 : ¬ p ∣ 1 := by
  intro hd
  have := Int.le_of_dvd (by omega) hd
  have := h.two_le
  omega
 have := vl_unit h v h1
 simpa using this
theorem vl_mul {p a b : Int} (h : IsP p) (ha : a ≠ 0) (hb : b ≠ 0) : vl p (a * b) = vl p a + vl p b := by
 obtain ⟨u, hu, hnu, _⟩ := vl_split h a ha
 obtain ⟨w, hw, hnw, _⟩ := vl_split h b hb
 have : a * b = p ^ (vl p a + vl p b) * (u * w) := by
  rw [Int.pow_add]
  conv => lhs; rw [hu, hw]
  simp only [Int.mul_assoc, Int.mul_left_comm]
 rw [this]
 exact vl_unit h _ fun hd => by
  rcases h.dvd_mul hd with h1 | h1
  ·exact hnu h1
  ·exact hnw h1
theorem pow_vl_dvd {p n : Int} (h : IsP p) (hn : n ≠ 0) : p ^ vl p n ∣ n := by
 obtain ⟨u, hu, _⟩ := vl_split h n hn
 exact ⟨u, hu⟩
theorem pow_dvd_iff {p n : Int} (h : IsP p) (hn : n ≠ 0) (k : Nat) : p ^ k ∣ n ↔ k ≤ vl p n := by
 constructor
 ·rintro ⟨m, rfl⟩
  have hm : m ≠ 0 := by rintro rfl; simp at hn
  rw [vl_pow_mul h hm]; omega
 ·intro hk
  exact Int.dvd_trans (pow_dvd hk) (pow_vl_dvd h hn)
theorem vl_le_of_lt {p n : Int} (h : IsP p) (hn : n ≠ 0) {k : Nat} (hk : n.natAbs < p.natAbs ^ k) : vl p n < k := by
 obtain ⟨u, hu, _, hu0⟩ := vl_split h n hn
 by_cases hc : vl p n < k
 ·exact hc
 ·exfalso
  have h1 : n.natAbs = p.natAbs ^ vl p n * u.natAbs := by
   have := congrArg Int.natAbs hu
   rwa [Int.natAbs_mul, Int.natAbs_pow] at this
  have h2 : p.natAbs ^ k ≤ p.natAbs ^ vl p n := Nat.pow_le_pow_right (by have := h.two_le; omega) (by omega)
  have h3 : 1 ≤ u.natAbs := by omega
  have h4 := Nat.mul_le_mul_left (p.natAbs ^ vl p n) h3
  omega
theorem pow_vl_le {p n : Int} (h : IsP p) (hn : n ≠ 0) : p ^ vl p n ≤ n.natAbs := by
 have h1 := Int.dvd_natAbs.2 (pow_vl_dvd h hn)
 exact Int.le_of_dvd (by omega) h1
theorem vl_le_62 {p n : Int} (h : IsP p) (hn : n ≠ 0) (h0 : -9223372036854775807 ≤ n) (h1 : n ≤ 9223372036854775807) : vl p n < 63 := by
 refine vl_le_of_lt h hn ?_
 have h2 : 2 ^ 63 ≤ p.natAbs ^ 63 := Nat.pow_le_pow_left (by have := h.two_le; omega) 63
 have h3 : (2 : Nat) ^ 63 = 9223372036854775808 := by decide
 omega
/-! ### quotients and remainders as Go has them -/
theorem tmod_zero_iff {x p : Int} : Int.tmod x p = 0 ↔ p ∣ x := ⟨Int.dvd_of_tmod_eq_zero, Int.tmod_eq_zero_of_dvd⟩
theorem tdiv_mul_left {p x : Int} (hp : p ≠ 0) : Int.tdiv (p * x) p = x := Int.mul_tdiv_cancel_left x hp
theorem mod_eq {n m : Int} (hm : 0 < m) : Int.tmod (Int.tmod n m + m) m = n % m := by
 have h0 := Int.emod_nonneg n (Int.ne_of_gt hm)
 have h1 := Int.emod_lt_of_pos n hm
 rw [Int.tmod_eq_emod (a := n)]
 split
 ·rw [Int.tmod_eq_emod_of_nonneg (by simp; omega)]
  simp
 ·have : (m.natAbs : Int) = m := by omega
  rw [this, Int.tmod_eq_emod_of_nonneg (by omega)]
  rw [Int.sub_add_cancel, Int.emod_emod]
theorem mod_between {n m : Int} (hm : 0 < m) : -m < Int.tmod n m ∧ Int.tmod n m < m := by
 have h0 := Int.emod_nonneg n (Int.ne_of_gt hm)
 have h1 := Int.emod_lt_of_pos n hm
 rw [Int.tmod_eq_emod]
 split <;> omega
theorem tdiv_bounds {n m : Int} : -(n.natAbs : Int) ≤ Int.tdiv n m ∧ Int.tdiv n m ≤ n.natAbs := by
 have h := Int.natAbs_tdiv_le_natAbs n m
 omega
theorem tmod_natAbs_lt {a b : Int} (hb : b ≠ 0) : (Int.tmod a b).natAbs < b.natAbs := by
 rw [Int.natAbs_tmod]; exact Nat.mod_lt _ (by omega)
theorem gcd_tmod {a b : Int} : Int.gcd b (Int.tmod a b) = Int.gcd a b := by
 rw [Int.tmod_def, Int.gcd_sub_mul_left_right, Int.gcd_comm]
/-! ### balls by their marks -/
theorem not_dvd_pow_mul {p z u : Int} (h : IsP p) (hu : ¬ p ∣ u) {k : Nat} (hd : p ^ k ∣ z * u) : p ^ k ∣ z := by
 by_cases hz : z = 0
 ·subst hz; exact Int.dvd_zero _
 have hu0 : u ≠ 0 := by rintro rfl; exact hu (Int.dvd_zero _)
 have h1 := (pow_dvd_iff h (Int.mul_ne_zero hz hu0) k).1 hd
 rw [vl_mul h hz hu0, vl_of_not hu] at h1
 exact (pow_dvd_iff h hz k).2 (by omega)
theorem not_dvd_mul {p a b : Int} (h : IsP p) (ha : ¬ p ∣ a) (hb : ¬ p ∣ b) : ¬ p ∣ a * b := fun hd => by
 rcases h.dvd_mul hd with h1 | h1
 ·exact ha h1
 ·exact hb h1
theorem dvd_cancel {q a b : Int} (hq : q ≠ 0) (h : q * a ∣ q * b) : a ∣ b := by
 obtain ⟨c, hc⟩ := h
 exact ⟨c, Int.eq_of_mul_eq_mul_left hq (by rw [hc, Int.mul_assoc])⟩

def Bal (p l t d : Int) : Prop :=
 -6 ≤ l ∧ l ≤ 6 ∧ 0 ≤ d ∧ d ≤ 6 ∧ (if l + d ≤ 0 then t = 0 ∧ d = 0 else 0 ≤ t ∧ t < p ^ (l + d).toNat ∧ (d = 0 ∨ ¬ p ∣ t))
instance (p l t d : Int) : Decidable (Bal p l t d) := by unfold Bal; infer_instance
theorem Bal_low {p l t d : Int} (h : l + d ≤ 0) : Bal p l t d ↔ (-6 ≤ l ∧ l ≤ 6 ∧ 0 ≤ d ∧ d ≤ 6 ∧ t = 0 ∧ d = 0) := by unfold Bal; rw [if_pos h]
theorem Bal_high {p l t d : Int} (h : ¬ l + d ≤ 0) : Bal p l t d ↔ (-6 ≤ l ∧ l ≤ 6 ∧ 0 ≤ d ∧ d ≤ 6 ∧ 0 ≤ t ∧ t < p ^ (l + d).toNat ∧ (d = 0 ∨ ¬ p ∣ t)) := by unfold Bal; rw [if_neg h]
def mk (p t d : Int) : Int := t * p ^ (6 - d).toNat
def ofMd (p l x : Int) : Nat := if x % p ^ (l + 6).toNat = 0 then 0 else 6 - vl p (x % p ^ (l + 6).toNat)
def ofMt (p l x : Int) : Int := x % p ^ (l + 6).toNat / p ^ (6 - ofMd p l x)

theorem ofMd_le (p l x : Int) : ofMd p l x ≤ 6 := by unfold ofMd; split <;> omega

theorem Bal.mark {p l t d : Int} (h : IsP p) (hb : Bal p l t d) : 0 ≤ mk p t d ∧ mk p t d < p ^ (l + 6).toNat := by
 obtain ⟨l0, l1, d0, d1, hb⟩ := hb
 unfold mk
 split at hb
 ·obtain ⟨rfl, rfl⟩ := hb
  have := pow_pos' h (l + 6).toNat
  simp; omega
 ·obtain ⟨t0, t1, _⟩ := hb
  refine ⟨Int.mul_nonneg t0 (Int.le_of_lt (pow_pos' h _)), ?_⟩
  have e : (l + 6).toNat = (l + d).toNat + (6 - d).toNat := by omega
  rw [e, Int.pow_add]
  exact Int.mul_lt_mul_of_pos_right t1 (pow_pos' h _)

theorem Bal.back {p l t d : Int} (h : IsP p) (hb : Bal p l t d) : ofMt p l (mk p t d) = t ∧ (ofMd p l (mk p t d) : Int) = d := by
 have hm := hb.mark h
 have hy : mk p t d % p ^ (l + 6).toNat = mk p t d := Int.emod_eq_of_lt hm.1 hm.2
 obtain ⟨l0, l1, d0, d1, hb⟩ := hb
 by_cases ht : t = 0
 ·subst ht
  have hd : d = 0 := by
   split at hb
   ·exact hb.2
   ·rcases hb.2.2 with h1 | h1
    ·exact h1
    ·exact absurd (Int.dvd_zero _) h1
  subst hd
  unfold ofMt ofMd
  rw [hy]
  simp [mk]
 ·have h0 : mk p t d ≠ 0 := Int.mul_ne_zero ht (pow_ne' h _)
  have hv : vl p (mk p t d) = (6 - d).toNat + vl p t := by
   unfold mk; rw [Int.mul_comm, vl_pow_mul h ht]
  have hd : ofMd p l (mk p t d) = d.toNat := by
   unfold ofMd
   rw [hy, if_neg h0, hv]
   split at hb
   ·omega
   ·rcases hb.2.2 with h1 | h1
    ·omega
    ·rw [vl_of_not h1]; omega
  refine ⟨?_, by rw [hd]; omega⟩
  unfold ofMt
  rw [hd, hy]
  unfold mk
  have : 6 - d.toNat = (6 - d).toNat := by omega
  rw [this, Int.mul_ediv_cancel _ (pow_ne' h _)]

theorem ofM_mark {p l : Int} (h : IsP p) (x : Int) : mk p (ofMt p l x) (ofMd p l x) = x % p ^ (l + 6).toNat := by
 have hd6 := ofMd_le p l x
 unfold mk ofMt
 have e : (6 - (ofMd p l x : Int)).toNat = 6 - ofMd p l x := by omega
 rw [e]
 refine Int.ediv_mul_cancel ?_
 by_cases hy : x % p ^ (l + 6).toNat = 0
 ·rw [hy]; exact Int.dvd_zero _
 ·refine (pow_dvd_iff h hy _).2 ?_
  unfold ofMd
  rw [if_neg hy]
  omega

theorem ofM_bal {p l : Int} (h : IsP p) (l0 : -6 ≤ l) (l1 : l ≤ 6) (x : Int) : Bal p l (ofMt p l x) (ofMd p l x) := by
 have hd6 := ofMd_le p l x
 have hm := ofM_mark (l := l) h x
 have y0 := Int.emod_nonneg x (pow_ne' h (l + 6).toNat)
 have y1 := Int.emod_lt_of_pos x (pow_pos' h (l + 6).toNat)
 refine ⟨l0, l1, by omega, by omega, ?_⟩
 have e : (6 - (ofMd p l x : Int)).toNat = 6 - ofMd p l x := by omega
 by_cases hy : x % p ^ (l + 6).toNat = 0
 ·have hd : ofMd p l x = 0 := by unfold ofMd; rw [if_pos hy]
  have ht : ofMt p l x = 0 := by unfold ofMt; rw [hy]; simp
  rw [hd, ht]
  split
  ·simp
  ·exact ⟨by omega, pow_pos' h _, .inl rfl⟩
 ·have hgt : 0 < x % p ^ (l + 6).toNat := by omega
  have hdiv : p ^ (6 - ofMd p l x) ∣ x % p ^ (l + 6).toNat := ⟨ofMt p l x, by rw [← hm]; unfold mk; rw [e, Int.mul_comm]⟩
  have hle := Int.le_of_dvd hgt hdiv
  have hlt : 6 - ofMd p l x < (l + 6).toNat := by
   rcases Nat.lt_or_ge (6 - ofMd p l x) (l + 6).toNat with h1 | h1
   ·exact h1
   ·have := pow_mono h h1
    omega
  rw [if_neg (by omega)]
  have ht : x % p ^ (l + 6).toNat = ofMt p l x * p ^ (6 - ofMd p l x) := by rw [← hm]; unfold mk; rw [e]
  have hpp := pow_pos' h (6 - ofMd p l x)
  refine ⟨?_, ?_, ?_⟩
  ·unfold ofMt
   exact Int.ediv_nonneg y0 (Int.le_of_lt hpp)
  ·have e2 : (l + 6).toNat = (l + (ofMd p l x : Int)).toNat + (6 - ofMd p l x) := by omega
   rw [ht] at y1
   have y1' : ofMt p l x * p ^ (6 - ofMd p l x) < p ^ (l + (ofMd p l x : Int)).toNat * p ^ (6 - ofMd p l x) := by rw [← Int.pow_add, ← e2]; exact y1
   exact Int.lt_of_mul_lt_mul_right y1' (Int.le_of_lt hpp)
  ·by_cases h0 : ofMd p l x = 0
   ·left; omega
   ·right
    intro hd
    obtain ⟨c, hc⟩ := hd
    have hv : vl p (x % p ^ (l + 6).toNat) = 6 - ofMd p l x := by
     have : ofMd p l x = 6 - vl p (x % p ^ (l + 6).toNat) := by
      conv => lhs; unfold ofMd
      rw [if_neg hy]
     omega
    have h2 : p ^ (vl p (x % p ^ (l + 6).toNat) + 1) ∣ x % p ^ (l + 6).toNat := by
     rw [hv]
     refine ⟨c, ?_⟩
     rw [ht, hc, Int.pow_succ]
     simp only [Int.mul_assoc, Int.mul_comm, Int.mul_left_comm]
    have := (pow_dvd_iff h hy _).1 h2
    omega

theorem ofM_congr {p l x y : Int} (hd : x % p ^ (l + 6).toNat = y % p ^ (l + 6).toNat) : ofMt p l x = ofMt p l y ∧ ofMd p l x = ofMd p l y := by
 unfold ofMt ofMd
 rw [hd]
 exact ⟨rfl, rfl⟩
theorem emod_eq_of_dvd {m x y : Int} (h : m ∣ x - y) : x % m = y % m := Int.emod_eq_emod_iff_emod_sub_eq_zero.2 (Int.emod_eq_zero_of_dvd h)
theorem ofM_zero_of_dvd {p l x : Int} (hd : p ^ (l + 6).toNat ∣ x) : ofMt p l x = 0 ∧ ofMd p l x = 0 := by
 have h0 := Int.emod_eq_zero_of_dvd hd
 unfold ofMt ofMd
 rw [h0]
 simp

def Lat (p u m d : Int) : Prop := 0 ≤ u ∧ u ≤ 12 ∧ 0 ≤ d ∧ d ≤ 12 ∧ 0 ≤ m ∧ m < p ^ u.toNat
instance (p u m d : Int) : Decidable (Lat p u m d) := by unfold Lat; infer_instance
theorem Bal.small {p l t d : Int} (hp : IsP p) (h : Bal p l t d) : 0 ≤ t ∧ t ≤ 13841287201 := by
 by_cases hlow : l + d ≤ 0
 ·rw [Bal_low hlow] at h; omega
 ·rw [Bal_high hlow] at h
  have h7 := pow_le_seven hp (m := (l + d).toNat) (n := 12) (by omega)
  have : (7 : Int) ^ 12 = 13841287201 := by decide
  omega
theorem Lat.small {p u m d : Int} (hp : IsP p) (h : Lat p u m d) : 0 ≤ m ∧ m < 13841287201 := by
 obtain ⟨u0, u1, d0, d1, m0, m1⟩ := h
 have h7 := pow_le_seven hp (m := u.toNat) (n := 12) (by omega)
 have : (7 : Int) ^ 12 = 13841287201 := by decide
 omega
/-! ### the inverse by a power of p -/
theorem nat_coprime_p {p : Int} (h : IsP p) {n : Int} (hn : ¬ p ∣ n) : Nat.Coprime n.natAbs p.natAbs := by
 have hg : Nat.gcd n.natAbs p.natAbs ∣ p.natAbs := Nat.gcd_dvd_right _ _
 have hg' : Nat.gcd n.natAbs p.natAbs ∣ n.natAbs := Nat.gcd_dvd_left _ _
 have hne : Nat.gcd n.natAbs p.natAbs ≠ p.natAbs := fun e => by
  rw [e] at hg'
  exact hn (Int.natAbs_dvd_natAbs.1 hg')
 unfold Nat.Coprime
 generalize Nat.gcd n.natAbs p.natAbs = g at *
 have hle := Nat.le_of_dvd (by have := h.two_le; omega) hg
 rcases h with rfl | rfl | rfl | rfl
 ·have : g = 0 ∨ g = 1 ∨ g = 2 := by have : (2 : Int).natAbs = 2 := rfl; omega
  rcases this with rfl | rfl | rfl <;> first | rfl | (exfalso; exact hne rfl) | (exfalso; revert hg; decide)
 ·have : g = 0 ∨ g = 1 ∨ g = 2 ∨ g = 3 := by have : (3 : Int).natAbs = 3 := rfl; omega
  rcases this with rfl | rfl | rfl | rfl <;> first | rfl | (exfalso; exact hne rfl) | (exfalso; revert hg; decide)
 ·have : g = 0 ∨ g = 1 ∨ g = 2 ∨ g = 3 ∨ g = 4 ∨ g = 5 := by have : (5 : Int).natAbs = 5 := rfl; omega
  rcases this with rfl | rfl | rfl | rfl | rfl | rfl <;> first | rfl | (exfalso; exact hne rfl) | (exfalso; revert hg; decide)
 ·have : g = 0 ∨ g = 1 ∨ g = 2 ∨ g = 3 ∨ g = 4 ∨ g = 5 ∨ g = 6 ∨ g = 7 := by have : (7 : Int).natAbs = 7 := rfl; omega
  rcases this with rfl | rfl | rfl | rfl | rfl | rfl | rfl | rfl <;> first | rfl | (exfalso; exact hne rfl) | (exfalso; revert hg; decide)

def Euc (n m : Int) (a b : Nat) (x y : Int) : Prop :=
 m ∣ x * n - a ∧ m ∣ y * n - b ∧ Nat.Coprime a b ∧ ∃ X Y : Int, 0 ≤ X ∧ 0 ≤ Y ∧ X ≤ m ∧ Y ≤ m ∧ X * b + Y * a = m ∧ ((x = X ∧ y = -Y) ∨ (x = -X ∧ y = Y))

theorem Euc.start {n m : Int} (hm : 0 < m) (hc : Nat.Coprime (n % m).toNat m.toNat) : Euc n m (n % m).toNat m.toNat 1 0 := by
 have h0 := Int.emod_nonneg n (Int.ne_of_gt hm)
 refine ⟨?_, ?_, hc, 1, 0, by omega, by omega, by omega, by omega, by simp; omega, .inl ⟨rfl, by simp⟩⟩
 ·rw [Int.one_mul, Int.toNat_of_nonneg h0]
  exact ⟨n / m, by have := Int.mul_ediv_add_emod n m; omega⟩
 ·rw [Int.zero_mul, Int.toNat_of_nonneg (by omega)]
  exact ⟨-1, by omega⟩

theorem Euc.next {n m : Int} {a b : Nat} {x y : Int} (hb : 0 < b) (h : Euc n m a b x y) : Euc n m b (a % b) y (x - (a / b : Nat) * y) := by
 obtain ⟨h1, h2, hc, X, Y, hX, hY, hXm, hYm, hs, hxy⟩ := h
 have hq : (a : Int) = b * (a / b : Nat) + (a % b : Nat) := by
  have := Nat.div_add_mod a b
  have h' : ((b * (a / b) + a % b : Nat) : Int) = (a : Int) := by rw [this]
  rw [← h', Int.natCast_add, Int.natCast_mul]
 have hsum : Y * (a % b : Nat) + (X + (a / b : Nat) * Y) * b = m := by
  rw [← hs]
  conv => rhs; rw [hq]
  rw [Int.add_mul, Int.mul_add]
  have e1 : (a / b : Nat) * Y * (b : Int) = Y * (b * (a / b : Nat)) := by
   rw [Int.mul_comm (a / b : Nat) Y, Int.mul_assoc, Int.mul_comm ((a / b : Nat) : Int) b]
  rw [e1]; omega
 have hY' : 0 ≤ X + (a / b : Nat) * Y := Int.add_nonneg hX (Int.mul_nonneg (Int.natCast_nonneg _) hY)
 refine ⟨h2, ?_, ?_, Y, X + (a / b : Nat) * Y, hY, hY', hYm, ?_, hsum, ?_⟩
 ·have e : (x - (a / b : Nat) * y) * n - (a % b : Nat) = (x * n - a) - (a / b : Nat) * (y * n - b) := by
   rw [Int.sub_mul, Int.mul_sub, Int.mul_assoc]
   have : (a / b : Nat) * (b : Int) = b * (a / b : Nat) := Int.mul_comm _ _
   omega
  rw [e]
  exact Int.dvd_sub h1 (Int.dvd_trans h2 (Int.dvd_mul_left _ _))
 ·unfold Nat.Coprime at hc ⊢
  rw [Nat.gcd_comm] at hc
  rw [Nat.gcd_rec] at hc
  rw [Nat.gcd_comm]; exact hc
 ·have h3 : 0 ≤ Y * (a % b : Nat) := Int.mul_nonneg hY (Int.natCast_nonneg _)
  have h4 : (X + (a / b : Nat) * Y) * 1 ≤ (X + (a / b : Nat) * Y) * b := Int.mul_le_mul_of_nonneg_left (by omega) hY'
  omega
 ·rcases hxy with ⟨rfl, rfl⟩ | ⟨rfl, rfl⟩
  ·right
   refine ⟨rfl, ?_⟩
   rw [Int.mul_neg]; omega
  ·left
   refine ⟨rfl, ?_⟩
   omega

theorem Euc.bounds {n m : Int} {a b : Nat} {x y : Int} (h : Euc n m a b x y) : -m ≤ x ∧ x ≤ m ∧ -m ≤ y ∧ y ≤ m := by
 obtain ⟨_, _, _, X, Y, hX, hY, hXm, hYm, _, hxy⟩ := h
 rcases hxy with ⟨rfl, rfl⟩ | ⟨rfl, rfl⟩ <;> omega

theorem Euc.last {n m : Int} {a : Nat} {x y : Int} (h : Euc n m a 0 x y) : m ∣ x * n - 1 := by
 obtain ⟨h1, _, hc, _⟩ := h
 have : a = 1 := by unfold Nat.Coprime at hc; simpa using hc
 subst this
 exact h1

theorem coprime_start {p n : Int} (h : IsP p) (hn : ¬ p ∣ n) (e : Nat) : Nat.Coprime (n % p ^ e).toNat (p ^ e).toNat := by
 have h1 := nat_coprime_p h hn
 have h2 : Nat.Coprime n.natAbs (p.natAbs ^ e) := Nat.Coprime.pow_right e h1
 have h3 : (p ^ e).toNat = p.natAbs ^ e := by
  have := Int.natAbs_pow p e
  have := pow_pos' h e
  omega
 have h0 := Int.emod_nonneg n (pow_ne' h e)
 have hg : Int.gcd (n % p ^ e) (p ^ e) = 1 := by
  rw [Int.emod_def, Int.gcd_sub_mul_left_left]
  have : Int.gcd n (p ^ e) = Nat.gcd n.natAbs (p ^ e).natAbs := rfl
  rw [this, Int.natAbs_pow]
  exact h2
 unfold Nat.Coprime
 have h4 : Int.gcd (n % p ^ e) (p ^ e) = Nat.gcd (n % p ^ e).natAbs (p ^ e).natAbs := rfl
 rw [h4] at hg
 have h5 : (n % p ^ e).natAbs = (n % p ^ e).toNat := by omega
 have h6 : (p ^ e).natAbs = (p ^ e).toNat := by have := pow_pos' h e; omega
 rw [h5, h6] at hg
 exact hg
/-! ### ends in lowest terms -/
def edG (n d : Int) : Int := if d < 0 then -(Int.gcd n d : Int) else Int.gcd n d
def edN (n d : Int) : Int := Int.tdiv n (edG n d)
def edD (n d : Int) : Int := Int.tdiv d (edG n d)
def EndOk (n d : Int) : Prop := if d = 0 then n = 1 else 1 ≤ d ∧ d ≤ 1000000 ∧ -1000000 ≤ n ∧ n ≤ 1000000 ∧ Int.gcd n d = 1
instance (n d : Int) : Decidable (EndOk n d) := by unfold EndOk; infer_instance
theorem edG_facts {n d : Int} (hd : d ≠ 0) : edG n d ≠ 0 ∧ edG n d ∣ n ∧ edG n d ∣ d ∧ -(d.natAbs : Int) ≤ edG n d ∧ edG n d ≤ d.natAbs ∧ (d < 0 → edG n d < 0) ∧ (0 < d → 0 < edG n d) := by
 have h0 : 0 < Int.gcd n d := Int.gcd_pos_iff.2 (.inr hd)
 have h1 := Int.gcd_dvd_left n d
 have h2 := Int.gcd_dvd_right n d
 have h3 := Int.gcd_le_natAbs_right n hd
 unfold edG
 split
 ·exact ⟨by omega, Int.neg_dvd.2 h1, Int.neg_dvd.2 h2, by omega, by omega, fun _ => by omega, fun _ => by omega⟩
 ·exact ⟨by omega, h1, h2, by omega, by omega, fun _ => by omega, fun _ => by omega⟩
theorem ed_facts {n d : Int} (hd : d ≠ 0) : 1 ≤ edD n d ∧ edD n d ≤ d.natAbs ∧ -(n.natAbs : Int) ≤ edN n d ∧ edN n d ≤ n.natAbs ∧ Int.gcd (edN n d) (edD n d) = 1 ∧ n = edG n d * edN n d ∧ d = edG n d * edD n d := by
 obtain ⟨g0, g1, g2, _, _, gn, gp⟩ := edG_facts (n := n) hd
 have en : n = edG n d * edN n d := by
  unfold edN; exact (Int.mul_tdiv_cancel' g1).symm
 have ed : d = edG n d * edD n d := by
  unfold edD; exact (Int.mul_tdiv_cancel' g2).symm
 have b1 := tdiv_bounds (n := n) (m := edG n d)
 have b2 := tdiv_bounds (n := d) (m := edG n d)
 have hpos : 1 ≤ edD n d := by
  rcases Int.lt_trichotomy (edD n d) 0 with h | h | h
  ·exfalso
   rcases Int.lt_or_gt_of_ne hd with h' | h'
   ·have := gn h'
    have := Int.mul_pos_of_neg_of_neg this h
    omega
   ·have := gp h'
    have := Int.mul_neg_of_pos_of_neg this h
    omega
  ·rw [h] at ed; simp at ed; omega
  ·omega
 refine ⟨hpos, b2.2, b1.1, b1.2, ?_, en, ed⟩
 have hg : Int.gcd n d = (edG n d).natAbs * Int.gcd (edN n d) (edD n d) := by
  have := Int.gcd_mul_left (edG n d) (edN n d) (edD n d)
  rwa [← en, ← ed] at this
 have hga : (edG n d).natAbs = Int.gcd n d := by unfold edG; split <;> omega
 rw [hga] at hg
 have h0 : 0 < Int.gcd n d := Int.gcd_pos_iff.2 (.inr hd)
 have : Int.gcd n d * 1 = Int.gcd n d * Int.gcd (edN n d) (edD n d) := by rw [Nat.mul_one]; exact hg
 exact (Nat.eq_of_mul_eq_mul_left h0 this).symm
def EAt (n d : Int) : Int × Int × Bool := if d = 0 then (1, 0, true) else (edN n d, edD n d, decide (EndOk (edN n d) (edD n d)))
theorem ed_ok {n d : Int} (hd : d ≠ 0) : EndOk (edN n d) (edD n d) ↔ edD n d ≤ 1000000 ∧ -1000000 ≤ edN n d ∧ edN n d ≤ 1000000 := by
 obtain ⟨h1, _, _, _, h5, _⟩ := ed_facts (n := n) hd
 unfold EndOk
 rw [if_neg (by omega)]
 constructor
 ·rintro ⟨_, a, b, c, _⟩; exact ⟨a, b, c⟩
 ·rintro ⟨a, b, c⟩; exact ⟨h1, a, b, c, h5⟩
theorem EAt_ok {n d : Int} (h : (EAt n d).2.2 = true) : EndOk (EAt n d).1 (EAt n d).2.1 := by
 unfold EAt at h ⊢
 split
 ·simp [EndOk]
 ·rename_i hd
  rw [if_neg hd] at h
  simpa using h
/-! ### products and inverses modulo a number, as the reference takes them -/
theorem mulmod_eq (a b m : Int) : ((a % m * (b % m / 1000000)) % m * 1000000 % m + a % m * (b % m % 1000000) % m) % m = a * b % m := by
 have h1 : (a % m * (b % m / 1000000)) % m * 1000000 % m = a % m * (b % m / 1000000) * 1000000 % m := by
  rw [Int.mul_emod, Int.emod_emod, ← Int.mul_emod]
 rw [h1, ← Int.add_emod]
 have h2 : a % m * (b % m / 1000000) * 1000000 + a % m * (b % m % 1000000) = a % m * (b % m) := by
  rw [Int.mul_assoc, ← Int.mul_add]
  congr 1
  omega
 rw [h2, ← Int.mul_emod]
theorem mul_emod_left (a b m : Int) : a % m * b % m = a * b % m := by rw [Int.mul_emod, Int.emod_emod, ← Int.mul_emod]
theorem dvd_emod_sub (a m : Int) : m ∣ a % m - a := ⟨-(a / m), by have := Int.emod_def a m; rw [this, Int.mul_neg]; omega⟩
theorem euc_wraps {a b q r : Nat} {x y m : Int} (hle : q ≤ a) (hmod : r ≤ a) (hprod : (q : Int) * b = a - r) (ha : (a : Int) ≤ 1000000000000) (hm : 0 < m) (hm' : m ≤ 1000000000000)
  (hb : -m ≤ x ∧ x ≤ m ∧ -m ≤ y ∧ y ≤ m) (hb2 : -m ≤ y ∧ y ≤ m ∧ -m ≤ x - q * y ∧ x - q * y ≤ m) :
  wrap64 (q : Int) = q ∧ wrap64 ((a : Int) - wrap64 ((q : Int) * b)) = r ∧ wrap64 (x - wrap64 ((q : Int) * y)) = x - q * y := by
 have w1 : wrap64 (q : Int) = q := wrap_id (by omega) (by omega)
 have w2 : wrap64 ((q : Int) * b) = (q : Int) * b := wrap_id (by omega) (by omega)
 have w3 : wrap64 ((a : Int) - (q : Int) * b) = r := by rw [hprod, wrap_id (by omega) (by omega)]; omega
 have w4 : wrap64 ((q : Int) * y) = (q : Int) * y := wrap_id (by omega) (by omega)
 have w5 : wrap64 (x - (q : Int) * y) = x - (q : Int) * y := wrap_id (by omega) (by omega)
 exact ⟨w1, by rw [w2, w3], by rw [w4, w5]⟩
/-! ### the ball of a level that holds a fraction -/
theorem dvd_of_shift {p x u : Int} (h : IsP p) (hu : ¬ p ∣ u) {L b : Nat} (hd : p ^ (L + b) ∣ x * (p ^ b * u)) : p ^ L ∣ x := by
 refine not_dvd_pow_mul h hu ?_
 refine dvd_cancel (pow_ne' h b) ?_
 have e1 : p ^ b * p ^ L = p ^ (L + b) := by rw [Int.pow_add, Int.mul_comm]
 have e2 : p ^ b * (x * u) = x * (p ^ b * u) := by rw [Int.mul_left_comm]
 rw [e1, e2]; exact hd
theorem of_low {p num den level x : Int} (h : IsP p) (hden : den ≠ 0)
  (hx : p ^ ((level + 6).toNat + vl p den) ∣ x * den - num * p ^ 6) (hlow : num = 0 ∨ level + vl p den ≤ vl p num) (l0 : -6 ≤ level) : ofMt p level x = 0 ∧ ofMd p level x = 0 := by
 refine ofM_zero_of_dvd ?_
 obtain ⟨u, hu, hnd, _⟩ := vl_split h den hden
 have hn : p ^ ((level + 6).toNat + vl p den) ∣ num * p ^ 6 := by
  by_cases hz : num = 0
  ·subst hz; rw [Int.zero_mul]; exact Int.dvd_zero _
  ·rcases hlow with h1 | h1
   ·exact absurd h1 hz
   ·have h2 := (pow_dvd_iff h hz (vl p num)).2 (Nat.le_refl _)
    have h3 : p ^ (vl p num + 6) ∣ num * p ^ 6 := by rw [Int.pow_add]; exact Int.mul_dvd_mul h2 (Int.dvd_refl _)
    exact Int.dvd_trans (pow_dvd (by omega)) h3
 have h4 : p ^ ((level + 6).toNat + vl p den) ∣ x * den := by
  have := Int.dvd_add hx hn
  rwa [Int.sub_add_cancel] at this
 refine dvd_of_shift h hnd (b := vl p den) ?_
 rw [← hu]; exact h4
theorem of_high {p level x inv un ud : Int} {a b : Nat} (h : IsP p) (l0 : -6 ≤ level) (l1 : level ≤ 6) (hun : ¬ p ∣ un) (hud : ¬ p ∣ ud)
  (hx : p ^ ((level + 6).toNat + b) ∣ x * (p ^ b * ud) - p ^ a * un * p ^ 6) (hhigh : (a : Int) < level + b) (hfit : b ≤ a + 6)
  (hinv : p ^ (level + (b - a : Nat)).toNat ∣ inv * ud - 1) :
  ofMt p level x = (un * inv % p ^ (level + (b - a : Nat)).toNat) * p ^ (a - b) % p ^ (level + (b - a : Nat)).toNat ∧ (ofMd p level x : Int) = (b - a : Nat) := by
 have he1 : 1 ≤ (level + (b - a : Nat)).toNat := by omega
 have heL : 6 - (b - a) + b + (level + (b - a : Nat)).toNat = (level + 6).toNat + b := by omega
 have hlow : ¬ level + (b - a : Nat) ≤ 0 := by omega
 generalize hT : (un * inv % p ^ (level + (b - a : Nat)).toNat) * p ^ (a - b) % p ^ (level + (b - a : Nat)).toNat = T
 have hT' : T = un * inv * p ^ (a - b) % p ^ (level + (b - a : Nat)).toNat := by rw [← hT, mul_emod_left]
 have hT0 : 0 ≤ T := by rw [hT']; exact Int.emod_nonneg _ (pow_ne' h _)
 have hT1 : T < p ^ (level + (b - a : Nat)).toNat := by rw [hT']; exact Int.emod_lt_of_pos _ (pow_pos' h _)
 have hTd : p ^ (level + (b - a : Nat)).toNat ∣ T - un * inv * p ^ (a - b) := by rw [hT']; exact dvd_emod_sub _ _
 generalize he : (level + (b - a : Nat)).toNat = e at *
 have hpe : p ∣ p ^ e := by
  have := pow_dvd (p := p) (m := 1) (n := e) (by omega)
  rwa [Int.pow_one] at this
 have hinvp : ¬ p ∣ inv := fun hd => by
  have h1 : p ∣ inv * ud - 1 := Int.dvd_trans hpe hinv
  have h2 : p ∣ inv * ud := Int.dvd_trans hd (Int.dvd_mul_right _ _)
  have h3 := Int.dvd_sub h2 h1
  have h4 : inv * ud - (inv * ud - 1) = 1 := by omega
  rw [h4] at h3
  have := Int.le_of_dvd (by omega) h3
  have := h.two_le
  omega
 have hbal : Bal p level T (b - a : Nat) := by
  rw [Bal_high hlow, he]
  refine ⟨l0, l1, by omega, by omega, hT0, hT1, ?_⟩
  by_cases hab : b ≤ a
  ·left; omega
  ·right
   have h0 : a - b = 0 := by omega
   rw [h0, Int.pow_zero, Int.mul_one] at hTd
   intro hd
   have h1 := Int.dvd_sub hd (Int.dvd_trans hpe hTd)
   have h2 : T - (T - un * inv) = un * inv := by omega
   rw [h2] at h1
   exact not_dvd_mul h hun hinvp h1
 obtain ⟨j, hj⟩ := hTd
 obtain ⟨i, hi⟩ := hinv
 have hTu : T * ud = un * p ^ (a - b) + p ^ e * (un * p ^ (a - b) * i + j * ud) := by
  have e1 : T = un * inv * p ^ (a - b) + p ^ e * j := by omega
  have e2 : inv * ud = 1 + p ^ e * i := by omega
  rw [e1, Int.add_mul]
  have e3 : un * inv * p ^ (a - b) * ud = un * p ^ (a - b) * (inv * ud) := by
   simp only [Int.mul_assoc, Int.mul_comm, Int.mul_left_comm]
  rw [e3, e2, Int.mul_add, Int.mul_one, Int.mul_add]
  have e4 : un * p ^ (a - b) * (p ^ e * i) = p ^ e * (un * p ^ (a - b) * i) := by rw [Int.mul_left_comm]
  rw [e4, Int.mul_assoc (p ^ e) j ud]
  omega
 have hmk : mk p T (b - a : Nat) * (p ^ b * ud) - p ^ a * un * p ^ 6 = p ^ ((level + 6).toNat + b) * (un * p ^ (a - b) * i + j * ud) := by
  unfold mk
  have e6 : (6 - ((b - a : Nat) : Int)).toNat = 6 - (b - a) := by omega
  rw [e6]
  have e1 : T * p ^ (6 - (b - a)) * (p ^ b * ud) = p ^ (6 - (b - a) + b) * (T * ud) := by
   rw [Int.pow_add]
   simp only [Int.mul_assoc, Int.mul_comm, Int.mul_left_comm]
  rw [e1, hTu, Int.mul_add]
  have e2 : p ^ (6 - (b - a) + b) * (un * p ^ (a - b)) = p ^ a * un * p ^ 6 := by
   have : p ^ (6 - (b - a) + b) * (un * p ^ (a - b)) = p ^ (6 - (b - a) + b + (a - b)) * un := by
    rw [Int.pow_add p (6 - (b - a) + b) (a - b)]
    simp only [Int.mul_assoc, Int.mul_comm]
   rw [this]
   have e3 : 6 - (b - a) + b + (a - b) = a + 6 := by omega
   rw [e3, Int.pow_add]
   rw [Int.mul_assoc, Int.mul_assoc, Int.mul_comm un]
  have e4 : p ^ (6 - (b - a) + b) * (p ^ e * (un * p ^ (a - b) * i + j * ud)) = p ^ ((level + 6).toNat + b) * (un * p ^ (a - b) * i + j * ud) := by
   rw [← Int.mul_assoc, ← Int.pow_add, heL]
  rw [e2, e4]
  omega
 have hdvd : p ^ (level + 6).toNat ∣ mk p T (b - a : Nat) - x := by
  refine dvd_of_shift h hud (b := b) ?_
  have e1 : (mk p T (b - a : Nat) - x) * (p ^ b * ud) = (mk p T (b - a : Nat) * (p ^ b * ud) - p ^ a * un * p ^ 6) - (x * (p ^ b * ud) - p ^ a * un * p ^ 6) := by
   rw [Int.sub_mul]; omega
  rw [e1]
  exact Int.dvd_sub ⟨_, hmk⟩ hx
 have h1 := hbal.back h
 have h2 := ofM_congr (p := p) (l := level) (emod_eq_of_dvd hdvd)
 exact ⟨by rw [← h2.1, h1.1], by rw [← h2.2, h1.2]⟩
/-! ### inverses, nearness, joins -/
theorem inv_exists {p n : Int} (h : IsP p) (e : Nat) (hn : ¬ p ∣ n) : ∃ r, p ^ e ∣ r * n - 1 := by
 have key : ∀ (k a b : Nat) (x y : Int), b ≤ k → Euc n (p ^ e) a b x y → ∃ r, p ^ e ∣ r * n - 1 := by
  intro k
  induction k with
  | zero =>
   intro a b x y hb he
   obtain rfl : b = 0 := by omega
   exact ⟨x, he.last⟩
  | succ k ih =>
   intro a b x y hb he
   by_cases hz : b = 0
   ·subst hz; exact ⟨x, he.last⟩
   ·have hlt := Nat.mod_lt a (show 0 < b by omega)
    exact ih b (a % b) _ _ (by omega) (he.next (by omega))
 exact key _ _ _ _ _ (Nat.le_refl _) (Euc.start (pow_pos' h e) (coprime_start h hn e))
theorem near_exists {p num den : Int} (h : IsP p) (hden : den ≠ 0) (hfit : num = 0 ∨ vl p den ≤ vl p num + 6) (L : Nat) : ∃ x, p ^ (L + vl p den) ∣ x * den - num * p ^ 6 := by
 by_cases hz : num = 0
 ·exact ⟨0, by subst hz; simp⟩
 ·have hfit' : vl p den ≤ vl p num + 6 := by rcases hfit with h1 | h1; exact absurd h1 hz; exact h1
  obtain ⟨un, hun, hund, _⟩ := vl_split h num hz
  obtain ⟨ud, hud, hudd, _⟩ := vl_split h den hden
  obtain ⟨r, i, hi⟩ := inv_exists h L hudd
  generalize vl p num = a at *
  generalize vl p den = b at *
  refine ⟨un * r * p ^ (a + 6 - b), un * p ^ (a + 6 - b) * i, ?_⟩
  have e1 : r * ud = 1 + p ^ L * i := by omega
  have e2 : un * r * p ^ (a + 6 - b) * den = p ^ (a + 6 - b) * p ^ b * un * (r * ud) := by
   rw [hud]; simp only [Int.mul_assoc, Int.mul_comm, Int.mul_left_comm]
  have e3 : p ^ (a + 6 - b) * p ^ b = p ^ (a + 6) := by rw [← Int.pow_add]; congr 1; omega
  have e4 : num * p ^ 6 = p ^ (a + 6) * un := by
   rw [hun, Int.pow_add]; simp only [Int.mul_assoc, Int.mul_comm]
  rw [e2, e3, e1, e4, Int.mul_add, Int.mul_one]
  have e5 : p ^ (a + 6) * un * (p ^ L * i) = p ^ (L + b) * (un * p ^ (a + 6 - b) * i) := by
   rw [← e3, Int.pow_add p L b]; simp only [Int.mul_assoc, Int.mul_comm, Int.mul_left_comm]
  rw [e5]; omega
/-! ### division of 128 bits by 64, as math/bits has it -/
theorem wrapu (n : Int) : IntKind.u64.wrap n = n % 18446744073709551616 := by simp [IntKind.wrap, IntKind.bits, IntKind.signed]
theorem wrapu_id {n : Int} (h0 : 0 ≤ n) (h1 : n < 18446744073709551616) : IntKind.u64.wrap n = n := by rw [wrapu]; omega
theorem wraps_u64 (n : Int) (h₀ : 0 ≤ n) (h₁ : n < 2 ^ 64) : IntKind.u64.wrap n = n := by rw [wrapu]; omega
theorem u64_mask32 {x : Int} (h0 : 0 ≤ x) (h1 : x < 18446744073709551616) : Go.bits .and .u64 x 4294967295 = x % 4294967296 := by
 have := bits_mask .u64 64 (by decide) wraps_u64 32 (by decide) x h0 (by simpa using h1)
 simpa using this
theorem two_pow_pos' (n : Nat) : (0 : Int) < 2 ^ n := Int.pow_pos (by omega)
theorem shl_u64 {x : Int} {s : Nat} (hs : s ≤ 64) : shl .u64 x s = x * 2 ^ s % 18446744073709551616 := by
 unfold shl
 rw [wrapu]
 have : min (s : Int).toNat (IntKind.u64.bits) = s := by
  have e : IntKind.u64.bits = 64 := rfl
  rw [e]; omega
 rw [this]
theorem shr_u64 {x : Int} {s : Nat} (hs : s ≤ 64) : shr .u64 x s = x / 2 ^ s := by
 unfold shr
 have : min (s : Int).toNat (IntKind.u64.bits) = s := by
  have e : IntKind.u64.bits = 64 := rfl
  rw [e]; omega
 rw [this]
theorem or_u64 {x y : Int} {s : Nat} (hs : s ≤ 64) (hx0 : 0 ≤ x) (hx : (2 : Int) ^ s ∣ x) (hx1 : x < 18446744073709551616) (hy0 : 0 ≤ y) (hy : y < 2 ^ s) (hy1 : y < 18446744073709551616) : Go.bits .or .u64 x y = x + y :=
 bits_join .u64 64 (by decide) wraps_u64 s x y hx0 (Int.emod_eq_zero_of_dvd hx) (by simpa using hx1) hy0 hy (by simpa using hy1)

def IsLen (x : Int) (l : Nat) : Prop := 1 ≤ l ∧ 2 ^ (l - 1) ≤ x ∧ x < 2 ^ l
theorem IsLen.up {x : Int} {l : Nat} (n : Nat) (h : IsLen (x / 2 ^ n) l) : IsLen x (n + l) := by
 obtain ⟨h1, h2, h3⟩ := h
 have hp := two_pow_pos' n
 refine ⟨by omega, ?_, ?_⟩
 ·have e : n + l - 1 = (l - 1) + n := by omega
  rw [e, Int.pow_add]
  exact (Int.le_ediv_iff_mul_le hp).1 h2
 ·rw [Nat.add_comm, Int.pow_add]
  exact (Int.ediv_lt_iff_lt_mul hp).1 h3

def Guess (y y1 u n q r : Int) : Prop := q * y1 + r = u ∧ n / y ≤ q ∧ 0 ≤ r ∧ r < 4294967296 ∧ 0 ≤ q ∧ q ≤ 4294967297
theorem guess_first {y y1 y0 u v : Int} (hy : y = y1 * 4294967296 + y0) (hy1 : 2147483648 ≤ y1) (hy1' : y1 < 4294967296) (hy0 : 0 ≤ y0) (hy0' : y0 < 4294967296) (hu : 0 ≤ u) (huy : u < y) (hv : 0 ≤ v) (hv' : v < 4294967296) :
  Guess y y1 u (u * 4294967296 + v) (u / y1) (u - u / y1 * y1) := by
 have hpos : 0 < y1 := by omega
 have h1 := Int.emod_nonneg u (Int.ne_of_gt hpos)
 have h2 := Int.emod_lt_of_pos u hpos
 have h3 := Int.mul_ediv_add_emod u y1
 have h4 : u / y1 * y1 = y1 * (u / y1) := Int.mul_comm _ _
 have hq0 : 0 ≤ u / y1 := Int.ediv_nonneg hu (by omega)
 refine ⟨by omega, ?_, by omega, by omega, hq0, ?_⟩
 ·-- n / y ≤ u / y1
  rw [Int.le_ediv_iff_mul_le hpos]
  have hy' : 0 < y := by omega
  have h5 := Int.ediv_mul_le (u * 4294967296 + v) (Int.ne_of_gt hy')
  have h6 : 0 ≤ (u * 4294967296 + v) / y := Int.ediv_nonneg (by omega) (by omega)
  generalize (u * 4294967296 + v) / y = qs at *
  have h7 : qs * y = qs * y1 * 4294967296 + qs * y0 := by rw [hy, Int.mul_add, Int.mul_assoc]
  have h8 : 0 ≤ qs * y0 := Int.mul_nonneg h6 hy0
  omega
 ·have h5 : u / y1 < 4294967298 := by
   rw [Int.ediv_lt_iff_lt_mul hpos]
   omega
  omega
theorem guess_stop {y y1 y0 u v q r : Int} (hy : y = y1 * 4294967296 + y0) (hypos : 0 < y) (hg : Guess y y1 u (u * 4294967296 + v) q r) (hno : q * y0 ≤ 4294967296 * r + v) : q = (u * 4294967296 + v) / y := by
 obtain ⟨h1, h2, _⟩ := hg
 have h3 : q ≤ (u * 4294967296 + v) / y := by
  rw [Int.le_ediv_iff_mul_le hypos, hy, Int.mul_add, ← Int.mul_assoc]
  omega
 omega
theorem guess_down {y y1 y0 u v q r : Int} (hy : y = y1 * 4294967296 + y0) (hypos : 0 < y) (huy : u < y) (hv : 0 ≤ v) (hv' : v < 4294967296) (hg : Guess y y1 u (u * 4294967296 + v) q r) (hyes : 4294967296 ≤ q ∨ 4294967296 * r + v < q * y0) :
  q - 1 ≥ (u * 4294967296 + v) / y ∧ (q - 1) * y1 + (r + y1) = u ∧ 0 < q := by
 obtain ⟨h1, h2, h3, h4, h5, h6⟩ := hg
 have hlt : (u * 4294967296 + v) / y < q := by
  rw [Int.ediv_lt_iff_lt_mul hypos]
  rcases hyes with h7 | h7
  ·have h8 := Int.mul_le_mul_of_nonneg_right h7 (Int.le_of_lt hypos)
   omega
  ·rw [hy, Int.mul_add, ← Int.mul_assoc]
   omega
 have e : (q - 1) * y1 = q * y1 - y1 := by rw [Int.sub_mul, Int.one_mul]
 refine ⟨by omega, by omega, ?_⟩
 rcases hyes with h7 | h7
 ·omega
 ·by_cases hz : q = 0
  ·rw [hz, Int.zero_mul] at h7
   omega
  ·omega
theorem quot_rem {n y : Int} (hy : 0 < y) : n - n / y * y = n % y := by
 have := Int.mul_ediv_add_emod n y
 have : n / y * y = y * (n / y) := Int.mul_comm _ _
 omega
theorem two_digits {V y S u w v1 v0 : Int} (hS : 0 < S) (hy : 0 < y) (hV : V * S = u * 18446744073709551616 + w) (hw : w = v1 * 4294967296 + v0) :
  let Y := y * S
  let n1 := u * 4294967296 + v1
  let n0 := n1 % Y * 4294967296 + v0
  n1 / Y * 4294967296 + n0 / Y = V / y ∧ n0 % Y / S = V % y := by
 intro Y n1 n0
 have hY : 0 < Y := Int.mul_pos hy hS
 have e1 : n0 = V * S - Y * (n1 / Y * 4294967296) := by
  have h1 := Int.mul_ediv_add_emod n1 Y
  have h2 : Y * (n1 / Y * 4294967296) = Y * (n1 / Y) * 4294967296 := (Int.mul_assoc _ _ _).symm
  show n1 % Y * 4294967296 + v0 = V * S - Y * (n1 / Y * 4294967296)
  rw [h2, hV, hw]
  have h3 : n1 = u * 4294967296 + v1 := rfl
  omega
 constructor
 ·have h1 : n0 / Y = V * S / Y - n1 / Y * 4294967296 := by
   rw [e1, Int.sub_eq_add_neg, ← Int.mul_neg, Int.add_mul_ediv_left _ _ (Int.ne_of_gt hY)]
   omega
  have h2 : V * S / Y = V / y := Int.mul_ediv_mul_of_pos_left V y hS
  omega
 ·have h1 : n0 % Y = V * S % Y := by
   rw [e1, Int.sub_eq_add_neg, ← Int.mul_neg, Int.add_mul_emod_self_left]
  have h2 : V * S % Y = V % y * S := by
   have a0 := Int.emod_nonneg V (Int.ne_of_gt hy)
   have a1 := Int.emod_lt_of_pos V hy
   have a2 := Int.mul_ediv_add_emod V y
   have a3 : V * S = V % y * S + y * S * (V / y) := by
    have a4 : V * S = (y * (V / y) + V % y) * S := by rw [a2]
    rw [a4, Int.add_mul, Int.mul_right_comm]; omega
   rw [a3]
   show (V % y * S + y * S * (V / y)) % (y * S) = V % y * S
   rw [Int.add_mul_emod_self_left]
   exact Int.emod_eq_of_lt (Int.mul_nonneg a0 (Int.le_of_lt hS)) (Int.mul_lt_mul_of_pos_right a1 hS)
  rw [h1, h2, Int.mul_ediv_cancel _ (Int.ne_of_gt hS)]

end Go.Proofs.YtgdkmchphpjifaaGreatDoor.Math

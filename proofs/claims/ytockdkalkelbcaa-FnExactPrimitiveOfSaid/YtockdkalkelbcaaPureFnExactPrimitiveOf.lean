/- PrimitiveOf and the reference's PrimitiveOf answer the same for every prime and every form. No condition. -/
import Derived.Test.YtockdkalkelbcaaPFnExactPrimitiveOfx4
import Derived.Test.YtockdkalkelbcaaMath
namespace Go.Proofs.Ytockdkalkelbcaa.Pure
open Go.RowKit Go.Proofs.Ytockdkalkelbcaa.PFnExactPrimitiveOf Go.Proofs.YtockdkalkelbcaaW.PrintWords Go.Proofs.YtockdkalkelbcaaW.PrintLast Go.Proofs.YtockdkalkelbcaaW.PrintMore Go.Proofs.Ytockdkalkelbcaa.Math
set_option linter.unusedVariables false
set_option linter.unusedSimpArgs false
theorem isPrime_eq (p : Int) : impl_isPrime.f p = some (decide (IsP p)) := by
  unfold impl_isPrime.f IsP
  by_cases h2 : p = 2
  · subst h2; rfl
  by_cases h3 : p = 3
  · subst h3; rfl
  by_cases h5 : p = 5
  · subst h5; rfl
  by_cases h7 : p = 7
  · subst h7; rfl
  simp [h2, h3, h5, h7]
theorem l01Prime_eq (p : Int) : spec_l01Prime.f p = some (decide (IsP p)) := by
  unfold spec_l01Prime.f IsP
  by_cases h2 : p = 2
  · subst h2; rfl
  by_cases h3 : p = 3
  · subst h3; rfl
  by_cases h5 : p = 5
  · subst h5; rfl
  by_cases h7 : p = 7
  · subst h7; rfl
  simp [h2, h3, h5, h7]
theorem l01In_eq (n a b : Int) : spec_l01In.f n a b = some (decide (a ≤ n ∧ n ≤ b)) := by
  unfold spec_l01In.f
  by_cases h : n ≥ a
  · rw [if_pos h]; simp [h]
  · rw [if_neg h]; simp; omega
theorem power_l {p : Int} (h : IsP p) (n : Nat) (hn : n ≤ 22) : ∀ d i, i + d = n → Ev (fun k => impl_power.l0 k p (p ^ i) n i) (p ^ n) := by
  intro d
  induction d with
  | zero =>
    intro i hi
    obtain rfl : i = n := by omega
    refine Ev.step (fun k => by rw [impl_power.l0]) ?_
    simp only [if_neg (Int.lt_irrefl _)]
    exact Ev.now _
  | succ d ih =>
    intro i hi
    refine Ev.step (fun k => by rw [impl_power.l0]) ?_
    have h1 : (i : Int) < n := by omega
    have h2 := pow_pos' h (i + 1)
    have h3 := pow_le_22 h (n := i + 1) (by omega)
    have e1 : wrap64 (p ^ i * p) = p ^ (i + 1) := by rw [← show p ^ (i + 1) = p ^ i * p from Int.pow_succ p i]; exact wrap_id (by omega) (by omega)
    have e2 : wrap64 ((i : Int) + 1) = ((i + 1 : Nat) : Int) := by rw [wrap_id (by omega) (by omega)]; omega
    simp only [if_pos h1, e1, e2]
    exact ih (i + 1) (by omega)
theorem power_ev {p : Int} (h : IsP p) {n : Int} (hn : n ≤ 22) : Ev (fun k => impl_power.f k p n) (p ^ n.toNat) := by
  unfold impl_power.f
  by_cases h0 : 0 ≤ n
  · have := power_l h n.toNat (by omega) n.toNat 0 (by omega)
    rw [Int.pow_zero, Int.toNat_of_nonneg h0] at this
    exact this
  · refine Ev.step (fun k => by rw [impl_power.l0]) ?_
    have e : n.toNat = 0 := by omega
    simp only [if_neg (show ¬ (0 : Int) < n by omega), e, Int.pow_zero]
    exact Ev.now _
theorem l01Power_l {p : Int} (h : IsP p) : ∀ (d : Nat) (i : Nat), i + d ≤ 22 → Ev (fun k => spec_l01Power.l0 k p d (p ^ i)) (p ^ (i + d)) := by
  intro d
  induction d with
  | zero =>
    intro i hi
    refine Ev.step (fun k => by rw [spec_l01Power.l0]) ?_
    simp only [if_neg (show ¬ ((0 : Nat) : Int) > 0 by omega)]
    exact Ev.now _
  | succ d ih =>
    intro i hi
    refine Ev.step (fun k => by rw [spec_l01Power.l0]) ?_
    have h2 := pow_pos' h (i + 1)
    have h3 := pow_le_22 h (n := i + 1) (by omega)
    have e1 : wrap64 (p ^ i * p) = p ^ (i + 1) := by rw [← show p ^ (i + 1) = p ^ i * p from Int.pow_succ p i]; exact wrap_id (by omega) (by omega)
    have e2 : wrap64 (((d + 1 : Nat) : Int) - 1) = (d : Int) := by rw [wrap_id (by omega) (by omega)]; omega
    simp only [if_pos (show ((d + 1 : Nat) : Int) > 0 by omega), e1, e2]
    have := ih (i + 1) (by omega)
    have e3 : i + (d + 1) = i + 1 + d := by omega
    rw [e3]
    exact this
theorem l01Power_ev {p : Int} (h : IsP p) {n : Int} (hn : n ≤ 22) : Ev (fun k => spec_l01Power.f k p n) (p ^ n.toNat) := by
  unfold spec_l01Power.f
  by_cases h0 : 0 ≤ n
  · have := l01Power_l h n.toNat 0 (by omega)
    rw [Int.pow_zero, Int.toNat_of_nonneg h0, Nat.zero_add] at this
    exact this
  · refine Ev.step (fun k => by rw [spec_l01Power.l0]) ?_
    have e : n.toNat = 0 := by omega
    simp only [if_neg (show ¬ n > 0 by omega), e, Int.pow_zero]
    exact Ev.now _
theorem valuation_l {p : Int} (h : IsP p) : ∀ (v : Nat) (u : Int) (n : Int), ¬ p ∣ u → -9223372036854775807 ≤ p ^ v * u → p ^ v * u ≤ 9223372036854775807 → 0 ≤ n → n + v ≤ 1000 → Ev (fun k => impl_valuation.l0 k p (p ^ v * u) n) (n + v) := by
  intro v
  induction v with
  | zero =>
    intro u n hu h0 h1 hn hv
    refine Ev.step (fun k => by rw [impl_valuation.l0]) ?_
    have hne : ¬ Int.tmod (p ^ 0 * u) p = 0 := fun e => by
      rw [tmod_zero_iff, Int.pow_zero, Int.one_mul] at e; exact hu e
    simp only [if_neg h.ne, if_neg hne]
    exact ev_some (by simp)
  | succ v ih =>
    intro u n hu h0 h1 hn hv
    refine Ev.step (fun k => by rw [impl_valuation.l0]) ?_
    have e0 : p ^ (v + 1) * u = p * (p ^ v * u) := by rw [Int.pow_succ, Int.mul_comm (p ^ v) p, Int.mul_assoc]
    have hd : Int.tmod (p ^ (v + 1) * u) p = 0 := by rw [tmod_zero_iff, e0]; exact Int.dvd_mul_right _ _
    have e1 : Int.tdiv (p ^ (v + 1) * u) p = p ^ v * u := by rw [e0]; exact tdiv_mul_left h.ne
    have hb := tdiv_bounds (n := p ^ (v + 1) * u) (m := p)
    rw [e1] at hb
    have e2 : wrap64 (p ^ v * u) = p ^ v * u := wrap_id (by omega) (by omega)
    have e3 : wrap64 (n + 1) = n + 1 := wrap_id (by omega) (by omega)
    simp only [if_neg h.ne, if_pos hd, e1, e2, e3]
    exact ev_eq (ih u (n + 1) hu (by omega) (by omega) (by omega) (by omega)) (by omega)
theorem valuation_ev {p : Int} (h : IsP p) {x : Int} (hx : x ≠ 0) (h0 : -9223372036854775807 ≤ x) (h1 : x ≤ 9223372036854775807) : Ev (fun k => impl_valuation.f k p x) (vl p x) := by
  unfold impl_valuation.f
  simp only [if_neg hx]
  obtain ⟨u, hu, hnd, _⟩ := vl_split h x hx
  have hv := vl_le_62 h hx h0 h1
  have := valuation_l h (vl p x) u 0 hnd (by omega) (by omega) (by omega) (by omega)
  rw [← hu, Int.zero_add] at this
  exact this
theorem valuation_zero (k : Nat) (p : Int) : impl_valuation.f k p 0 = some 1000 := by unfold impl_valuation.f; rw [if_pos rfl]
theorem valuation_zero_ev (p : Int) : Ev (fun k => impl_valuation.f k p 0) 1000 := ⟨0, fun k _ => valuation_zero k p⟩
/-- Of every number: 1000 for 0. -/
def vx (p x : Int) : Int := if x = 0 then 1000 else vl p x
theorem valuation_any {p : Int} (h : IsP p) {x : Int} (h0 : -9223372036854775807 ≤ x) (h1 : x ≤ 9223372036854775807) : Ev (fun k => impl_valuation.f k p x) (vx p x) := by
  unfold vx
  by_cases hx : x = 0
  · subst hx; rw [if_pos rfl]; exact valuation_zero_ev p
  · rw [if_neg hx]; exact valuation_ev h hx h0 h1
theorem l01Val_l {p : Int} (h : IsP p) : ∀ (v : Nat) (u : Int) (n : Int), ¬ p ∣ u → -9223372036854775807 ≤ p ^ v * u → p ^ v * u ≤ 9223372036854775807 → 0 ≤ n → n + v ≤ 1000 → Ev (fun k => spec_l01Val.l0 k p (p ^ v * u) n) (n + v) := by
  intro v
  induction v with
  | zero =>
    intro u n hu h0 h1 hn hv
    refine Ev.step (fun k => by rw [spec_l01Val.l0]) ?_
    have hne : ¬ Int.tmod (p ^ 0 * u) p = 0 := fun e => by
      rw [tmod_zero_iff, Int.pow_zero, Int.one_mul] at e; exact hu e
    simp only [if_neg h.ne, if_neg hne]
    exact ev_some (by simp)
  | succ v ih =>
    intro u n hu h0 h1 hn hv
    refine Ev.step (fun k => by rw [spec_l01Val.l0]) ?_
    have e0 : p ^ (v + 1) * u = p * (p ^ v * u) := by rw [Int.pow_succ, Int.mul_comm (p ^ v) p, Int.mul_assoc]
    have hd : Int.tmod (p ^ (v + 1) * u) p = 0 := by rw [tmod_zero_iff, e0]; exact Int.dvd_mul_right _ _
    have e1 : Int.tdiv (p ^ (v + 1) * u) p = p ^ v * u := by rw [e0]; exact tdiv_mul_left h.ne
    have hb := tdiv_bounds (n := p ^ (v + 1) * u) (m := p)
    rw [e1] at hb
    have e2 : wrap64 (p ^ v * u) = p ^ v * u := wrap_id (by omega) (by omega)
    have e3 : wrap64 (n + 1) = n + 1 := wrap_id (by omega) (by omega)
    simp only [if_neg h.ne, if_pos hd, e1, e2, e3]
    exact ev_eq (ih u (n + 1) hu (by omega) (by omega) (by omega) (by omega)) (by omega)
theorem l01Val_ev {p : Int} (h : IsP p) {x : Int} (hx : x ≠ 0) (h0 : -9223372036854775807 ≤ x) (h1 : x ≤ 9223372036854775807) : Ev (fun k => spec_l01Val.f k p x) (vl p x) := by
  unfold spec_l01Val.f
  obtain ⟨u, hu, hnd, _⟩ := vl_split h x hx
  have hv := vl_le_62 h hx h0 h1
  have := l01Val_l h (vl p x) u 0 hnd (by omega) (by omega) (by omega) (by omega)
  rw [← hu, Int.zero_add] at this
  exact this
theorem IsLattice_ev {p u m d : Int} :
    Ev (fun k => impl_IsLattice.f k p u m d) (decide (IsP p ∧ Lat p u m d)) := by
  unfold impl_IsLattice.f
  simp only [isPrime_eq, Option.bind_some]
  by_cases hp : IsP p
  · simp only [hp, decide_true, if_true]
    by_cases h1 : u ≥ 0
    · simp only [if_pos h1]
      by_cases h2 : u ≤ 12
      · simp only [if_pos h2]
        by_cases h3 : d ≥ 0
        · simp only [if_pos h3]
          by_cases h4 : d ≤ 12
          · simp only [if_pos h4]
            by_cases h5 : m ≥ 0
            · simp only [if_pos h5]
              rw [bnd (power_ev hp (by omega))]
              exact ev_dec (by unfold Lat; simp; omega)
            · simp only [if_neg h5]
              exact ev_dec (by unfold Lat; simp; omega)
          · simp only [if_neg h4]
            exact ev_dec (by unfold Lat; simp; omega)
        · simp only [if_neg h3]
          exact ev_dec (by unfold Lat; simp; omega)
      · simp only [if_neg h2]
        exact ev_dec (by unfold Lat; simp; omega)
    · simp only [if_neg h1]
      exact ev_dec (by unfold Lat; simp; omega)
  · simp only [hp, decide_false, if_neg Bool.false_ne_true]
    exact ev_dec (by simp)
theorem l03Is_ev {p u m d : Int} :
    Ev (fun k => spec_l03Is.f k p u m d) (decide (IsP p ∧ Lat p u m d)) := by
  unfold spec_l03Is.f
  simp only [l01Prime_eq, l01In_eq, Option.bind_some]
  have bad : ∀ {c : Prop} [Decidable c], ¬ c → Ev (fun k => spec_l03Is.j0 k p true u m d) (decide c) := by
    intro c _ hc
    refine Ev.step (fun k => by rw [spec_l03Is.j0]) ?_
    simp only [if_true]
    exact ev_some (by simp [hc])
  by_cases hp : IsP p
  · simp only [hp, decide_true, if_true]
    by_cases h1 : 0 ≤ u ∧ u ≤ 12
    · simp only [h1, decide_true, if_true, and_self]
      by_cases h2 : 0 ≤ d ∧ d ≤ 12
      · simp only [h2, decide_true, and_self, Bool.not_true]
        refine Ev.step (fun k => by rw [spec_l03Is.j0]) ?_
        simp only [if_neg Bool.false_ne_true]
        rw [bnd (l01Power_ev hp (by omega))]
        have hpw := pow_pos' hp u.toNat
        have hpw2 := pow_le_22 hp (n := u.toNat) (by omega)
        have e2 : wrap64 (p ^ u.toNat - 1) = p ^ u.toNat - 1 := wrap_id (by omega) (by omega)
        simp only [l01In_eq, Option.bind_some, e2]
        exact ev_dec (by unfold Lat; simp; omega)
      · simp only [h2, decide_false, Bool.not_false]
        exact bad (by unfold Lat; omega)
    · simp only [h1, decide_false, if_neg Bool.false_ne_true]
      exact bad (by unfold Lat; omega)
  · simp only [hp, decide_false, if_neg Bool.false_ne_true]
    exact bad (by simp)
def LatOk (p : Int) (b : S26) : Prop := Lat p b.f0 b.f1 b.f2
instance (p : Int) (b : S26) : Decidable (LatOk p b) := by unfold LatOk; infer_instance
theorem rd_lat_at (pre : List S26) (b : S26) (ys : List S26) : rd_T26 (pre ++ b :: ys) (pre.length : Int) = b := by
  unfold rd_T26
  simp [List.getD_eq_getElem?_getD]
theorem l03Code_l {p : Int} (hp : IsP p) : ∀ (ys pre : List S26), (pre ++ ys).length ≤ 1000 → Ev (fun k => spec_l03Code.l0 k p (pre ++ ys) pre.length) (if ∀ b ∈ ys, LatOk p b then 0 else 1) := by
  intro ys
  induction ys with
  | nil =>
    intro pre _
    refine Ev.step (fun k => by rw [spec_l03Code.l0]) ?_
    simp only [List.append_nil, if_neg (Int.lt_irrefl _)]
    exact ev_some (by simp)
  | cons b ys ih =>
    intro pre hl
    refine Ev.step (fun k => by rw [spec_l03Code.l0]) ?_
    have hl' : (pre ++ b :: ys).length = pre.length + (ys.length + 1) := by simp
    have h1 : (pre.length : Int) < ((pre ++ b :: ys).length : Int) := by omega
    simp only [if_pos h1, if_pos (show (0 : Int) ≤ (pre.length : Int) by omega), rd_lat_at]
    rw [bnd l03Is_ev]
    by_cases hB : Lat p b.f0 b.f1 b.f2
    · simp only [hp, hB, and_self, decide_true, if_true]
      have e : wrap64 ((pre.length : Int) + 1) = ((pre ++ [b]).length : Int) := by rw [wrap_id (by omega) (by omega)]; simp
      have := ih (pre ++ [b]) (by simpa using hl)
      rw [e]
      simp only [List.append_assoc, List.singleton_append] at this
      refine ev_eq this ?_
      have : (∀ c ∈ b :: ys, LatOk p c) ↔ (∀ c ∈ ys, LatOk p c) := by simp [LatOk, hB]
      simp only [this]
    · simp only [hp, hB, and_false, decide_false, if_neg Bool.false_ne_true]
      refine ev_some ?_
      rw [if_neg]
      intro hall
      exact hB (hall b (by simp))
theorem l03Code_ev {p : Int} {ys : List S26} (hl : ys.length ≤ 1000) : Ev (fun k => spec_l03Code.f k p ys) (if IsP p ∧ ∀ b ∈ ys, LatOk p b then 0 else 1) := by
  unfold spec_l03Code.f
  simp only [l01Prime_eq, Option.bind_some]
  by_cases hp : IsP p
  · simp only [hp, decide_true, if_true, true_and]
    exact l03Code_l hp ys [] (by simpa using hl)
  · simp only [hp, decide_false, if_neg Bool.false_ne_true, false_and, if_false]
    exact Ev.now _
theorem l03Code1 {p l t d : Int} : Ev (fun k => spec_l03Code.f k p [⟨l, t, d⟩]) (if IsP p ∧ Lat p l t d then 0 else 1) := by
  refine ev_eq (l03Code_ev (by simp)) ?_
  simp [LatOk]
theorem l03Code2 {p l t d l' t' d' : Int} : Ev (fun k => spec_l03Code.f k p [⟨l, t, d⟩, ⟨l', t', d'⟩]) (if IsP p ∧ Lat p l t d ∧ Lat p l' t' d' then 0 else 1) := by
  refine ev_eq (l03Code_ev (by simp)) ?_
  simp [LatOk]
def PrimR (p u m d : Int) : Int × Int × Int × Int := (u - pk p u m d, m / p ^ (pk p u m d).toNat, d - pk p u m d, pk p u m d)
theorem prim_mix {p u m d : Int} (hp : IsP p) (h : Lat p u m d) : wrap64 (Int.tdiv m (p ^ (pk p u m d).toNat)) = m / p ^ (pk p u m d).toNat := by
  have hf := pk_facts hp h
  have hs := h.small hp
  have hb := tdiv_bounds (n := m) (m := p ^ (pk p u m d).toNat)
  rw [← Int.tdiv_eq_ediv_of_dvd hf.2.2.2]
  exact wrap_id (by omega) (by omega)
theorem primitive_ev {p u m d : Int} (hp : IsP p) (h : Lat p u m d) : Ev (fun k => impl_primitive.f k p u m d) (PrimR p u m d) := by
  unfold impl_primitive.f PrimR
  have hs := h.small hp
  have hf := pk_facts hp h
  rw [bnd (valuation_any hp (by omega) (by omega))]
  have e : mn (mn u d) (vx p m) = pk p u m d := by
    unfold vx pk
    by_cases hm : m = 0
    · rw [if_pos hm, if_pos hm]
      have : mn u d ≤ 12 := by unfold Lat at h; unfold mn; split <;> omega
      generalize mn u d = x at *
      unfold mn; rw [if_neg (by omega)]
    · rw [if_neg hm, if_neg hm]
  unfold Lat at h
  simp only [e]
  rw [bnd (power_ev hp (by omega))]
  simp only [if_neg (pow_ne' hp _), prim_mix hp h]
  rw [wrap_id (x := u - _) (by omega) (by omega), wrap_id (x := d - _) (by omega) (by omega)]
  exact Ev.now _
theorem l03Vals_ev {p x : Int} (hp : IsP p) (h0 : -9223372036854775807 ≤ x) (h1 : x ≤ 9223372036854775807) : Ev (fun k => spec_l03Vals.f k p x) (if x = 0 then 100 else (vl p x : Int)) := by
  unfold spec_l03Vals.f
  by_cases hx : x = 0
  · simp only [if_pos hx]; exact Ev.now _
  · simp only [if_neg hx]
    rw [bnd (l01Val_ev hp hx h0 h1)]
    exact Ev.now _
theorem l03Primitive_ev {p u m d : Int} (hp : IsP p) (h : Lat p u m d) : Ev (fun k => spec_l03Primitive.f k p u m d) (PrimR p u m d) := by
  unfold spec_l03Primitive.f PrimR
  have hs := h.small hp
  have hf := pk_facts hp h
  rw [bnd (l03Vals_ev hp (by omega) (by omega))]
  have e : mn (mn u d) (if m = 0 then 100 else (vl p m : Int)) = pk p u m d := by
    unfold pk
    by_cases hm : m = 0
    · rw [if_pos hm, if_pos hm]
      have : mn u d ≤ 12 := by unfold Lat at h; unfold mn; split <;> omega
      generalize mn u d = x at *
      unfold mn; rw [if_neg (by omega)]
    · rw [if_neg hm, if_neg hm]
  unfold Lat at h
  simp only [e]
  rw [bnd (l01Power_ev hp (by omega))]
  simp only [if_neg (pow_ne' hp _), prim_mix hp h]
  rw [wrap_id (x := u - _) (by omega) (by omega), wrap_id (x := d - _) (by omega) (by omega)]
  exact Ev.now _
def PrimOfR (p u m d : Int) : Int × Int × Int × Int × Int := if IsP p ∧ Lat p u m d then ((PrimR p u m d).1, (PrimR p u m d).2.1, (PrimR p u m d).2.2.1, (PrimR p u m d).2.2.2, 0) else (0, 0, 0, 0, 1)
theorem implPrimitiveOf_ev {p u m d : Int} : Ev (fun k => impl_PrimitiveOf.f k p u m d) (PrimOfR p u m d) := by
  unfold impl_PrimitiveOf.f PrimOfR
  rw [bnd IsLattice_ev]
  by_cases h : IsP p ∧ Lat p u m d
  · simp only [h, and_self, decide_true, if_true]
    rw [bnd (primitive_ev h.1 h.2)]
    exact Ev.now _
  · simp only [h, decide_false, if_neg Bool.false_ne_true, if_false]; exact Ev.now _
theorem specPrimitiveOf_ev {p u m d : Int} : Ev (fun k => spec_PrimitiveOf.f k p u m d) (PrimOfR p u m d) := by
  unfold spec_PrimitiveOf.f PrimOfR
  rw [bnd l03Code1]
  by_cases h : IsP p ∧ Lat p u m d
  · simp only [h, and_self, if_true]
    rw [bnd (l03Primitive_ev h.1 h.2)]
    exact Ev.now _
  · simp only [h, if_false, if_neg (show ¬ (1 : Int) = 0 by omega)]; exact Ev.now _
def FnExactPrimitiveOfPure : Prop := ∀ (a0 : Int) (a1_0 : Int) (a1_1 : Int) (a1_2 : Int), (Lit.int .i64 a0).wf = true → (Lit.int .i64 a1_0).wf = true → (Lit.int .i64 a1_1).wf = true → (Lit.int .i64 a1_2).wf = true → ∃ k, laws_FnExactPrimitiveOf.f k a0 a1_0 a1_1 a1_2 = some true
theorem FnExactPrimitiveOf : FnExactPrimitiveOfPure := by
  intro a0 a1 a2 a3 w0 w1 w2 w3
  refine Ev.rounds (g := fun k => laws_FnExactPrimitiveOf.f k a0 a1 a2 a3) ?_
  unfold laws_FnExactPrimitiveOf.f
  simp only [laws_toLattice.f, Option.bind_some]
  rw [bnd specPrimitiveOf_ev, bnd implPrimitiveOf_ev]
  simp only [laws_eqLattice.f, if_true, Option.bind_some]
  exact Ev.now _

end Go.Proofs.Ytockdkalkelbcaa.Pure

/- BallText and the reference's BallText answer the same for every prime and every ball. No condition. -/
import Derived.Test.YtgdkmchphpjifaaDoorPFnExactBallTextx3
import Derived.Test.YtgdkmchphpjifaaDoorMath
import Derived.Lib.IndexBytes
import Derived.Lib.Bytealg
import Derived.Lib.ItoaLen
import Derived.Lib.ItoaMem
namespace Go.Proofs.YtgdkmchphpjifaaDoor.Pure
open Go.RowKit Go.Proofs.YtgdkmchphpjifaaDoor.PFnExactBallText Go.Proofs.YtgdkmchphpjifaaDoorW.PrintWords Go.Proofs.YtgdkmchphpjifaaDoorW.PrintLast Go.Proofs.YtgdkmchphpjifaaDoorW.PrintMore Go.Proofs.YtgdkmchphpjifaaDoor.Math
set_option linter.unusedVariables false
set_option linter.unusedSimpArgs false
theorem isPrime_eq (p : Int) : impl_isPrime.f p = some (decide (IsP p)) := by
  unfold impl_isPrime.f IsP
  by_cases h2 : p = 2
  · subst h2; rfl
  by_cases h3 : p = 3
  · subst h3; rfl
  by_cases h5 : p = 5
  · subst h5; rfl
  by_cases h7 : p = 7
  · subst h7; rfl
  simp [h2, h3, h5, h7]
theorem l01Prime_eq (p : Int) : spec_l01Prime.f p = some (decide (IsP p)) := by
  unfold spec_l01Prime.f IsP
  by_cases h2 : p = 2
  · subst h2; rfl
  by_cases h3 : p = 3
  · subst h3; rfl
  by_cases h5 : p = 5
  · subst h5; rfl
  by_cases h7 : p = 7
  · subst h7; rfl
  simp [h2, h3, h5, h7]
theorem l01In_eq (n a b : Int) : spec_l01In.f n a b = some (decide (a ≤ n ∧ n ≤ b)) := by
  unfold spec_l01In.f
  by_cases h : n ≥ a
  · rw [if_pos h]; simp [h]
  · rw [if_neg h]; simp; omega
theorem isLevel_eq (n : Int) : impl_isLevel.f n = some (decide (-6 ≤ n ∧ n ≤ 6)) := by
  unfold impl_isLevel.f
  by_cases h : n ≥ (-6)
  · rw [if_pos h]; simp [h]
  · rw [if_neg h]; simp; omega
theorem power_l {p : Int} (h : IsP p) (n : Nat) (hn : p ^ n ≤ 9223372036854775807) (hn' : n ≤ 1000) : ∀ d i, i + d = n → Ev (fun k => impl_power.l0 k p (p ^ i) n i) (p ^ n) := by
  intro d
  induction d with
  | zero =>
    intro i hi
    obtain rfl : i = n := by omega
    refine Ev.step (fun k => by rw [impl_power.l0]) ?_
    simp only [if_neg (Int.lt_irrefl _)]
    exact Ev.now _
  | succ d ih =>
    intro i hi
    refine Ev.step (fun k => by rw [impl_power.l0]) ?_
    have h1 : (i : Int) < n := by omega
    have h2 := pow_pos' h (i + 1)
    have h3 := pow_mono h (m := i + 1) (n := n) (by omega)
    have e1 : wrap64 (p ^ i * p) = p ^ (i + 1) := by rw [← show p ^ (i + 1) = p ^ i * p from Int.pow_succ p i]; exact wrap_id (by omega) (by omega)
    have e2 : wrap64 ((i : Int) + 1) = ((i + 1 : Nat) : Int) := by rw [wrap_id (by omega) (by omega)]; omega
    simp only [if_pos h1, e1, e2]
    exact ih (i + 1) (by omega)
theorem power_big {p : Int} (h : IsP p) {n : Nat} (hn : p ^ n ≤ 9223372036854775807) (hn' : n ≤ 1000) : Ev (fun k => impl_power.f k p n) (p ^ n) := by
  unfold impl_power.f
  have := power_l h n hn hn' n 0 (by omega)
  rw [Int.pow_zero] at this
  exact this
theorem power_ev {p : Int} (h : IsP p) {n : Int} (hn : n ≤ 22) : Ev (fun k => impl_power.f k p n) (p ^ n.toNat) := by
  by_cases h0 : 0 ≤ n
  · have := power_big h (n := n.toNat) (by have := pow_le_22 h (n := n.toNat) (by omega); omega) (by omega)
    rw [Int.toNat_of_nonneg h0] at this
    exact this
  · unfold impl_power.f
    refine Ev.step (fun k => by rw [impl_power.l0]) ?_
    have e : n.toNat = 0 := by omega
    simp only [if_neg (show ¬ (0 : Int) < n by omega), e, Int.pow_zero]
    exact Ev.now _
theorem l01Power_l {p : Int} (h : IsP p) : ∀ (d : Nat) (i : Nat), p ^ (i + d) ≤ 9223372036854775807 → i + d ≤ 1000 → Ev (fun k => spec_l01Power.l0 k p d (p ^ i)) (p ^ (i + d)) := by
  intro d
  induction d with
  | zero =>
    intro i _ _
    refine Ev.step (fun k => by rw [spec_l01Power.l0]) ?_
    simp only [if_neg (show ¬ ((0 : Nat) : Int) > 0 by omega)]
    exact Ev.now _
  | succ d ih =>
    intro i hi hi'
    refine Ev.step (fun k => by rw [spec_l01Power.l0]) ?_
    have h2 := pow_pos' h (i + 1)
    have h3 := pow_mono h (m := i + 1) (n := i + (d + 1)) (by omega)
    have e1 : wrap64 (p ^ i * p) = p ^ (i + 1) := by rw [← show p ^ (i + 1) = p ^ i * p from Int.pow_succ p i]; exact wrap_id (by omega) (by omega)
    have e2 : wrap64 (((d + 1 : Nat) : Int) - 1) = (d : Int) := by rw [wrap_id (by omega) (by omega)]; omega
    simp only [if_pos (show ((d + 1 : Nat) : Int) > 0 by omega), e1, e2]
    have e3 : i + (d + 1) = i + 1 + d := by omega
    rw [e3] at hi ⊢
    exact ih (i + 1) hi (by omega)
theorem l01Power_big {p : Int} (h : IsP p) {n : Nat} (hn : p ^ n ≤ 9223372036854775807) (hn' : n ≤ 1000) : Ev (fun k => spec_l01Power.f k p n) (p ^ n) := by
  unfold spec_l01Power.f
  have := l01Power_l h n 0 (by rw [Nat.zero_add]; exact hn) (by omega)
  rw [Int.pow_zero, Nat.zero_add] at this
  exact this
theorem l01Power_ev {p : Int} (h : IsP p) {n : Int} (hn : n ≤ 22) : Ev (fun k => spec_l01Power.f k p n) (p ^ n.toNat) := by
  by_cases h0 : 0 ≤ n
  · have := l01Power_big h (n := n.toNat) (by have := pow_le_22 h (n := n.toNat) (by omega); omega) (by omega)
    rw [Int.toNat_of_nonneg h0] at this
    exact this
  · unfold spec_l01Power.f
    refine Ev.step (fun k => by rw [spec_l01Power.l0]) ?_
    have e : n.toNat = 0 := by omega
    simp only [if_neg (show ¬ n > 0 by omega), e, Int.pow_zero]
    exact Ev.now _
theorem IsBall_ev {p l t d : Int} (hl : -9223372036854775808 ≤ l ∧ l ≤ 9223372036854775807) (hd : -9223372036854775808 ≤ d ∧ d ≤ 9223372036854775807) :
    Ev (fun k => impl_IsBall.f k p l t d) (decide (IsP p ∧ Bal p l t d)) := by
  unfold impl_IsBall.f
  simp only [isPrime_eq, isLevel_eq, Option.bind_some]
  have bad : ∀ {c : Prop} [Decidable c], ¬ c → Ev (fun k => impl_IsBall.j0 k p true l t d) (decide c) := by
    intro c _ hc
    refine Ev.step (fun k => by rw [impl_IsBall.j0]) ?_
    simp only [if_true]
    exact ev_some (by simp [hc])
  by_cases hp : IsP p
  · simp only [hp, decide_true, if_true]
    by_cases h1 : -6 ≤ l ∧ l ≤ 6
    · simp only [h1, decide_true, if_true, and_self]
      by_cases h2 : d < 0
      · simp only [if_pos h2]
        exact bad (by unfold Bal; omega)
      · simp only [if_neg h2]
        by_cases h3 : d > 6
        · simp only [h3, decide_true]
          exact bad (by unfold Bal; omega)
        · simp only [h3, decide_false]
          refine Ev.step (fun k => by rw [impl_IsBall.j0]) ?_
          have e : wrap64 (l + d) = l + d := wrap_id (by omega) (by omega)
          simp only [if_neg Bool.false_ne_true, e]
          by_cases h4 : l + d ≤ 0
          · simp only [if_pos h4]
            by_cases h5 : t = 0
            · simp only [if_pos h5]
              exact ev_dec (by rw [Bal_low h4]; simp [hp, h5]; omega)
            · simp only [if_neg h5]
              exact ev_dec (by rw [Bal_low h4]; simp [h5])
          · simp only [if_neg h4]
            have hpw := pow_pos' hp (l + d).toNat
            by_cases h5 : t ≥ 0
            · simp only [if_pos h5]
              rw [bnd (power_ev hp (by omega))]
              by_cases h6 : t < p ^ (l + d).toNat
              · simp only [if_pos h6]
                by_cases h7 : d = 0
                · simp only [if_pos h7]
                  exact ev_dec (by rw [Bal_high h4]; simp [hp, h7] at h6 ⊢; omega)
                · simp only [if_neg h7, if_neg hp.ne]
                  refine ev_dec ?_
                  rw [Bal_high h4]
                  by_cases h8 : p ∣ t <;> simp [hp, h7, tmod_zero_iff, h8] <;> omega
              · simp only [if_neg h6]
                exact ev_dec (by rw [Bal_high h4]; simp [hp]; omega)
            · simp only [if_neg h5]
              exact ev_dec (by rw [Bal_high h4]; simp [hp]; omega)
    · simp only [h1, decide_false, if_neg Bool.false_ne_true]
      exact bad (by unfold Bal; omega)
  · simp only [hp, decide_false, if_neg Bool.false_ne_true]
    exact bad (by simp)
theorem l01Is_ev {p l t d : Int} (hl : -9223372036854775808 ≤ l ∧ l ≤ 9223372036854775807) (hd : -9223372036854775808 ≤ d ∧ d ≤ 9223372036854775807) :
    Ev (fun k => spec_l01Is.f k p l t d) (decide (IsP p ∧ Bal p l t d)) := by
  unfold spec_l01Is.f
  simp only [l01Prime_eq, l01In_eq, Option.bind_some]
  have bad : ∀ {c : Prop} [Decidable c], ¬ c → Ev (fun k => spec_l01Is.j0 k p true l t d) (decide c) := by
    intro c _ hc
    refine Ev.step (fun k => by rw [spec_l01Is.j0]) ?_
    simp only [if_true]
    exact ev_some (by simp [hc])
  by_cases hp : IsP p
  · simp only [hp, decide_true, if_true]
    by_cases h1 : -6 ≤ l ∧ l ≤ 6
    · simp only [h1, decide_true, if_true, and_self]
      by_cases h2 : 0 ≤ d ∧ d ≤ 6
      · simp only [h2, decide_true, and_self, Bool.not_true]
        refine Ev.step (fun k => by rw [spec_l01Is.j0]) ?_
        have e : wrap64 (l + d) = l + d := wrap_id (by omega) (by omega)
        simp only [if_neg Bool.false_ne_true, e]
        by_cases h4 : l + d ≤ 0
        · simp only [if_pos h4]
          by_cases h5 : t = 0
          · simp only [if_pos h5]
            exact ev_dec (by rw [Bal_low h4]; simp [hp, h5]; omega)
          · simp only [if_neg h5]
            exact ev_dec (by rw [Bal_low h4]; simp [h5])
        · simp only [if_neg h4]
          have hpw := pow_pos' hp (l + d).toNat
          have hpw2 := pow_le_22 hp (n := (l + d).toNat) (by omega)
          rw [bnd (l01Power_ev hp (by omega))]
          have e2 : wrap64 (p ^ (l + d).toNat - 1) = p ^ (l + d).toNat - 1 := wrap_id (by omega) (by omega)
          simp only [l01In_eq, Option.bind_some, e2]
          by_cases h6 : 0 ≤ t ∧ t ≤ p ^ (l + d).toNat - 1
          · simp only [h6, decide_true, if_true, and_self]
            by_cases h7 : d = 0
            · simp only [if_pos h7]
              exact ev_dec (by rw [Bal_high h4]; simp [hp, h7] at h6 ⊢; omega)
            · simp only [if_neg h7, if_neg hp.ne]
              refine ev_dec ?_
              rw [Bal_high h4]
              by_cases h8 : p ∣ t <;> simp [hp, h7, tmod_zero_iff, h8] <;> omega
          · simp only [h6, decide_false, if_neg Bool.false_ne_true]
            exact ev_dec (by rw [Bal_high h4]; simp [hp]; omega)
      · simp only [h2, decide_false, Bool.not_false]
        exact bad (by unfold Bal; omega)
    · simp only [h1, decide_false, if_neg Bool.false_ne_true]
      exact bad (by unfold Bal; omega)
  · simp only [hp, decide_false, if_neg Bool.false_ne_true]
    exact bad (by simp)
def BallOk (p : Int) (b : S32) : Prop := Bal p b.f0 b.f1 b.f2
instance (p : Int) (b : S32) : Decidable (BallOk p b) := by unfold BallOk; infer_instance
def BallWf (b : S32) : Prop := (-9223372036854775808 ≤ b.f0 ∧ b.f0 ≤ 9223372036854775807) ∧ (-9223372036854775808 ≤ b.f2 ∧ b.f2 ≤ 9223372036854775807)
theorem rd_ball_at (pre : List S32) (b : S32) (ys : List S32) : rd_T32 (pre ++ b :: ys) (pre.length : Int) = b := by
  unfold rd_T32
  simp [List.getD_eq_getElem?_getD]
theorem l01Code_l {p : Int} (hp : IsP p) : ∀ (ys pre : List S32), (pre ++ ys).length ≤ 1000 → (∀ b ∈ ys, BallWf b) → Ev (fun k => spec_l01Code.l0 k p (pre ++ ys) pre.length) (if ∀ b ∈ ys, BallOk p b then 0 else 1) := by
  intro ys
  induction ys with
  | nil =>
    intro pre _ _
    refine Ev.step (fun k => by rw [spec_l01Code.l0]) ?_
    simp only [List.append_nil, if_neg (Int.lt_irrefl _)]
    exact ev_some (by simp)
  | cons b ys ih =>
    intro pre hl hw
    refine Ev.step (fun k => by rw [spec_l01Code.l0]) ?_
    have hl' : (pre ++ b :: ys).length = pre.length + (ys.length + 1) := by simp
    have h1 : (pre.length : Int) < ((pre ++ b :: ys).length : Int) := by omega
    simp only [if_pos h1, if_pos (show (0 : Int) ≤ (pre.length : Int) by omega), rd_ball_at]
    have hb := hw b (by simp)
    rw [bnd (l01Is_ev hb.1 hb.2)]
    by_cases hB : Bal p b.f0 b.f1 b.f2
    · simp only [hp, hB, and_self, decide_true, if_true]
      have e : wrap64 ((pre.length : Int) + 1) = ((pre ++ [b]).length : Int) := by rw [wrap_id (by omega) (by omega)]; simp
      have := ih (pre ++ [b]) (by simpa using hl) (fun c hc => hw c (by simp [hc]))
      rw [e]
      simp only [List.append_assoc, List.singleton_append] at this
      refine ev_eq this ?_
      have : (∀ c ∈ b :: ys, BallOk p c) ↔ (∀ c ∈ ys, BallOk p c) := by simp [BallOk, hB]
      simp only [this]
    · simp only [hp, hB, and_false, decide_false, if_neg Bool.false_ne_true]
      refine ev_some ?_
      rw [if_neg]
      intro hall
      exact hB (hall b (by simp))
theorem l01Code_ev {p : Int} {ys : List S32} (hl : ys.length ≤ 1000) (hw : ∀ b ∈ ys, BallWf b) : Ev (fun k => spec_l01Code.f k p ys) (if IsP p ∧ ∀ b ∈ ys, BallOk p b then 0 else 1) := by
  unfold spec_l01Code.f
  simp only [l01Prime_eq, Option.bind_some]
  by_cases hp : IsP p
  · simp only [hp, decide_true, if_true, true_and]
    exact l01Code_l hp ys [] (by simpa using hl) hw
  · simp only [hp, decide_false, if_neg Bool.false_ne_true, false_and, if_false]
    exact Ev.now _
theorem l01Code1 {p l t d : Int} (hl : -9223372036854775808 ≤ l ∧ l ≤ 9223372036854775807) (hd : -9223372036854775808 ≤ d ∧ d ≤ 9223372036854775807) :
    Ev (fun k => spec_l01Code.f k p [⟨l, t, d⟩]) (if IsP p ∧ Bal p l t d then 0 else 1) := by
  refine ev_eq (l01Code_ev (by simp) (by intro b hb; simp at hb; subst hb; exact ⟨hl, hd⟩)) ?_
  simp [BallOk]
theorem Bal.sm {p l t d : Int} (hp : IsP p) (h : Bal p l t d) : (-6 ≤ l ∧ l ≤ 6) ∧ (0 ≤ t ∧ t ≤ 13841287201) ∧ 0 ≤ d ∧ d ≤ 6 := by
  have h1 := h.small hp
  unfold Bal at h
  split at h <;> omega
/-- The decimal text of a number. -/
def DT (n : Int) : ByteArray := ⟨(Go.Lib.itoa n).toArray⟩
theorem DT_size {n : Int} (h0 : -9223372036854775808 ≤ n) (h1 : n ≤ 9223372036854775807) : (DT n).size ≤ 21 := by
  have := Go.Lib.itoa_length_le n h0 h1
  unfold DT
  rw [Go.Lib.size_eq]
  exact this
theorem ba_ext {a b : ByteArray} (h : a.data.toList = b.data.toList) : a = b := by
  obtain ⟨⟨x⟩⟩ := a
  obtain ⟨⟨y⟩⟩ := b
  simp at h
  rw [h]
theorem ba_app (a b : ByteArray) : (a ++ b).data.toList = a.data.toList ++ b.data.toList := by
  obtain ⟨a⟩ := a
  obtain ⟨b⟩ := b
  rw [ByteArray.mk_append_mk]
theorem dec_nat : ∀ (n u : Nat), u ≤ n → u ≤ 9223372036854775807 → Ev (fun k => spec_l01Dec.f k (u : Int)) (⟨(Go.Lib.decDigits u).toArray⟩ : ByteArray) := by
  intro n
  induction n with
  | zero =>
    intro u hu h1
    have h10 : u < 10 := by omega
    refine Ev.step (fun k => by rw [spec_l01Dec.f]) ?_
    simp only [if_neg (show ¬ (u : Int) < 0 by omega), if_pos (show (u : Int) < 10 by omega)]
    refine ev_some ?_
    rw [wrap_id (by omega) (by omega), Go.Lib.decDigits_one h10]
    apply ba_ext
    show [UInt8.ofNat ((48 + (u : Int)) % 256).toNat] = [UInt8.ofNat (48 + u)]
    rw [show ((48 + (u : Int)) % 256).toNat = 48 + u by omega]
  | succ n ih =>
    intro u hu h1
    by_cases h10 : u < 10
    · refine Ev.step (fun k => by rw [spec_l01Dec.f]) ?_
      simp only [if_neg (show ¬ (u : Int) < 0 by omega), if_pos (show (u : Int) < 10 by omega)]
      refine ev_some ?_
      rw [wrap_id (by omega) (by omega), Go.Lib.decDigits_one h10]
      apply ba_ext
      show [UInt8.ofNat ((48 + (u : Int)) % 256).toNat] = [UInt8.ofNat (48 + u)]
      rw [show ((48 + (u : Int)) % 256).toNat = 48 + u by omega]
    · have hr := ih (u / 10) (by omega) (by omega)
      have ed : Int.tdiv (u : Int) 10 = ((u / 10 : Nat) : Int) := by rw [Int.tdiv_eq_ediv_of_nonneg (by omega)]; omega
      have em : Int.tmod (u : Int) 10 = ((u % 10 : Nat) : Int) := by rw [Int.tmod_eq_emod_of_nonneg (by omega)]; omega
      refine Ev.step (fun k => by rw [spec_l01Dec.f]) ?_
      simp only [if_neg (show ¬ (u : Int) < 0 by omega), if_neg (show ¬ (u : Int) < 10 by omega), ed, em]
      rw [wrap_id (x := ((u / 10 : Nat) : Int)) (by omega) (by omega), bnd hr, wrap_id (x := 48 + ((u % 10 : Nat) : Int)) (by omega) (by omega)]
      have hs : (⟨(Go.Lib.decDigits (u / 10)).toArray⟩ : ByteArray).size ≤ 20 := by
        rw [Go.Lib.size_eq]
        show (Go.Lib.decDigits (u / 10)).length ≤ 20
        rw [Go.Lib.decDigits_length]
        exact Go.Lib.nDigits_le20 _ (by omega)
      simp only [Option.bind_some, if_pos (show (⟨(Go.Lib.decDigits (u / 10)).toArray⟩ : ByteArray).size + (strOfNums [(48 + ((u % 10 : Nat) : Int)) % 256]).size ≤ 9223372036854775807 by rw [strOfNums_size, List.length_singleton]; omega)]
      refine ev_some ?_
      have hdd : Go.Lib.decDigits u = Go.Lib.decDigits (u / 10) ++ [UInt8.ofNat (48 + u % 10)] := by
        conv => lhs; rw [Go.Lib.decDigits]
        rw [dif_neg h10]
      apply ba_ext
      rw [ba_app, show (⟨(Go.Lib.decDigits u).toArray⟩ : ByteArray).data.toList = Go.Lib.decDigits u from rfl, hdd]
      show Go.Lib.decDigits (u / 10) ++ [UInt8.ofNat ((48 + ((u % 10 : Nat) : Int)) % 256).toNat] = Go.Lib.decDigits (u / 10) ++ [UInt8.ofNat (48 + u % 10)]
      rw [show ((48 + ((u % 10 : Nat) : Int)) % 256).toNat = 48 + u % 10 by omega]
theorem l01Dec_ev {n : Int} (h0 : -9223372036854775807 ≤ n) (h1 : n ≤ 9223372036854775807) : Ev (fun k => spec_l01Dec.f k n) (DT n) := by
  by_cases hn : n < 0
  · obtain ⟨u, rfl⟩ : ∃ u : Nat, n = -(u : Int) := ⟨n.natAbs, by omega⟩
    refine Ev.step (fun k => by rw [spec_l01Dec.f]) ?_
    simp only [if_pos hn]
    rw [show wrap64 (- -(u : Int)) = (u : Int) by rw [wrap_id (by omega) (by omega)]; omega, bnd (dec_nat u u (Nat.le_refl _) (by omega))]
    have hs : (⟨(Go.Lib.decDigits u).toArray⟩ : ByteArray).size ≤ 20 := by
      rw [Go.Lib.size_eq]
      show (Go.Lib.decDigits u).length ≤ 20
      rw [Go.Lib.decDigits_length]
      exact Go.Lib.nDigits_le20 _ (by omega)
    simp only [if_pos (show 1 + (⟨(Go.Lib.decDigits u).toArray⟩ : ByteArray).size ≤ 9223372036854775807 by omega)]
    refine ev_some ?_
    apply ba_ext
    rw [ba_app]
    unfold DT
    rw [Go.Lib.itoa_neg u (by omega)]
    rfl
  · obtain ⟨u, rfl⟩ : ∃ u : Nat, n = u := ⟨n.toNat, by omega⟩
    refine ev_eq (dec_nat u u (Nat.le_refl _) (by omega)) ?_
    unfold DT
    rw [Go.Lib.itoa_nonneg]
theorem decimal_eq {n : Int} (h0 : -9223372036854775808 ≤ n) (h1 : n ≤ 9223372036854775807) : impl_decimal.f n = some (DT n) := by
  unfold impl_decimal.f strconv_FormatInt_30.f
  rw [if_pos ⟨rfl, h0, h1⟩]
  rfl
def BT (l t d : Int) : ByteArray := (((DT t ++ (⟨#[46]⟩ : ByteArray)) ++ DT d) ++ (⟨#[64]⟩ : ByteArray)) ++ DT l
def Fit (x : Int) : Prop := -9223372036854775807 ≤ x ∧ x ≤ 9223372036854775807
theorem BT_sizes {l t d : Int} (hl : Fit l) (ht : Fit t) (hd : Fit d) : (DT t).size + 1 ≤ 9223372036854775807 ∧ (DT t ++ (⟨#[46]⟩ : ByteArray)).size + (DT d).size ≤ 9223372036854775807 ∧
    ((DT t ++ (⟨#[46]⟩ : ByteArray)) ++ DT d).size + 1 ≤ 9223372036854775807 ∧ (((DT t ++ (⟨#[46]⟩ : ByteArray)) ++ DT d) ++ (⟨#[64]⟩ : ByteArray)).size + (DT l).size ≤ 9223372036854775807 := by
  unfold Fit at hl ht hd
  have h1 := DT_size (n := t) (by omega) (by omega)
  have h2 := DT_size (n := d) (by omega) (by omega)
  have h3 := DT_size (n := l) (by omega) (by omega)
  have h4 : (⟨#[46]⟩ : ByteArray).size = 1 := rfl
  have h5 : (⟨#[64]⟩ : ByteArray).size = 1 := rfl
  simp only [ByteArray.size_append, h4, h5]
  omega
theorem specBT_ev {p l t d : Int} (hl : Fit l) (ht : Fit t) (hd : Fit d) : Ev (fun k => spec_l01Text.f k p l t d) (BT l t d) := by
  obtain ⟨s1, s2, s3, s4⟩ := BT_sizes hl ht hd
  unfold spec_l01Text.f BT
  rw [bnd (l01Dec_ev ht.1 ht.2)]
  simp only [if_pos s1]
  rw [bnd (l01Dec_ev hd.1 hd.2)]
  simp only [if_pos s2, if_pos s3]
  rw [bnd (l01Dec_ev hl.1 hl.2)]
  simp only [if_pos s4]
  exact Ev.now _
theorem implBT_eq {l t d : Int} (hl : Fit l) (ht : Fit t) (hd : Fit d) : impl_ballText.f l t d = some (BT l t d) := by
  obtain ⟨s1, s2, s3, s4⟩ := BT_sizes hl ht hd
  unfold Fit at hl ht hd
  unfold impl_ballText.f BT
  simp only [decimal_eq (show -9223372036854775808 ≤ t by omega) ht.2, decimal_eq (show -9223372036854775808 ≤ d by omega) hd.2, decimal_eq (show -9223372036854775808 ≤ l by omega) hl.2, Option.bind_some, if_pos s1, if_pos s2, if_pos s3, if_pos s4]
def FnExactBallTextPure : Prop := ∀ (a0 : Int) (a1_0 : Int) (a1_1 : Int) (a1_2 : Int), (Lit.int .i64 a0).wf = true → (Lit.int .i64 a1_0).wf = true → (Lit.int .i64 a1_1).wf = true → (Lit.int .i64 a1_2).wf = true → ∃ k, laws_FnExactBallText.f k a0 a1_0 a1_1 a1_2 = some true
theorem FnExactBallText : FnExactBallTextPure := by
  intro a0 a1_0 a1_1 a1_2 w0 w1 w2 w3
  refine Ev.rounds (g := fun k => laws_FnExactBallText.f k a0 a1_0 a1_1 a1_2) ?_
  unfold laws_FnExactBallText.f
  simp only [laws_toBall.f, Option.bind_some]
  have both : ∃ r, Ev (fun k => spec_BallText.f k a0 a1_0 a1_1 a1_2) r ∧ Ev (fun k => impl_BallText.f k a0 a1_0 a1_1 a1_2) r := by
    by_cases h : IsP a0 ∧ Bal a0 a1_0 a1_1 a1_2
    · have hb := Bal.sm h.1 h.2
      have f0 : Fit a1_0 := by unfold Fit; omega
      have f1 : Fit a1_1 := by unfold Fit; omega
      have f2 : Fit a1_2 := by unfold Fit; omega
      refine ⟨(BT a1_0 a1_1 a1_2, 0), ?_, ?_⟩
      · unfold spec_BallText.f
        rw [bnd (l01Code1 (wf_range w1) (wf_range w3))]
        simp only [if_pos h, if_true]
        rw [bnd (specBT_ev f0 f1 f2)]
        exact Ev.now _
      · unfold impl_BallText.f
        rw [bnd (IsBall_ev (wf_range w1) (wf_range w3))]
        simp only [decide_eq_true h, if_true, implBT_eq f0 f1 f2, Option.bind_some]
        exact Ev.now _
    · refine ⟨((⟨#[]⟩ : ByteArray), 1), ?_, ?_⟩
      · unfold spec_BallText.f
        rw [bnd (l01Code1 (wf_range w1) (wf_range w3))]
        simp only [if_neg h, if_neg (show ¬ (1 : Int) = 0 by omega)]
        exact Ev.now _
      · unfold impl_BallText.f
        rw [bnd (IsBall_ev (wf_range w1) (wf_range w3))]
        simp only [decide_eq_false h, if_neg Bool.false_ne_true]
        exact Ev.now _
  obtain ⟨r, h1, h2⟩ := both
  rw [bnd h1, bnd h2]
  simp only [if_true]
  exact Ev.now _

end Go.Proofs.YtgdkmchphpjifaaDoor.Pure

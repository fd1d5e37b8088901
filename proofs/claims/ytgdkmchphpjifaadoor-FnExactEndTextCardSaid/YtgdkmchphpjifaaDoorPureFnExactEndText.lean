/- EndText and the reference's EndText answer the same for every end. No condition. -/
import Derived.Test.YtgdkmchphpjifaaDoorPFnExactEndTextx2
import Derived.Test.YtgdkmchphpjifaaDoorMath
import Derived.Lib.IndexBytes
import Derived.Lib.Bytealg
import Derived.Lib.ItoaLen
import Derived.Lib.ItoaMem
namespace Go.Proofs.YtgdkmchphpjifaaDoor.Pure
open Go.RowKit Go.Proofs.YtgdkmchphpjifaaDoor.PFnExactEndText Go.Proofs.YtgdkmchphpjifaaDoorW.PrintWords Go.Proofs.YtgdkmchphpjifaaDoorW.PrintLast Go.Proofs.YtgdkmchphpjifaaDoorW.PrintMore Go.Proofs.YtgdkmchphpjifaaDoor.Math
set_option linter.unusedVariables false
set_option linter.unusedSimpArgs false
theorem l01In_eq (n a b : Int) : spec_l01In.f n a b = some (decide (a ≤ n ∧ n ≤ b)) := by
  unfold spec_l01In.f
  by_cases h : n ≥ a
  · rw [if_pos h]; simp [h]
  · rw [if_neg h]; simp; omega
theorem rd_at (pre : List Int) (b : Int) (ys : List Int) : rd (pre ++ b :: ys) (pre.length : Int) = b := by
  unfold rd
  simp [List.getD_eq_getElem?_getD]
theorem within_l {m : Int} (h0 : 0 ≤ m) (h1 : m ≤ 9223372036854775807) : ∀ (ys pre : List Int), (pre ++ ys).length ≤ 1000 → Ev (fun k => impl_within.l0 k m (pre ++ ys) ((pre ++ ys).length : Int) pre.length) (decide (∀ b ∈ ys, -m ≤ b ∧ b ≤ m)) := by
  intro ys
  induction ys with
  | nil =>
    intro pre _
    refine Ev.step (fun k => by rw [impl_within.l0]) ?_
    simp only [List.append_nil, if_neg (Int.lt_irrefl _)]
    exact ev_some (by simp)
  | cons b ys ih =>
    intro pre hl
    refine Ev.step (fun k => by rw [impl_within.l0]) ?_
    have hl' : (pre ++ b :: ys).length = pre.length + (ys.length + 1) := by simp
    have hlt : (pre.length : Int) < ((pre ++ b :: ys).length : Int) := by omega
    have em : wrap64 (-m) = -m := wrap_id (by omega) (by omega)
    simp only [if_pos hlt, if_pos (show (0 : Int) ≤ (pre.length : Int) by omega), rd_at, em]
    by_cases h2 : b < -m
    · simp only [if_pos h2]
      refine ev_some ?_
      symm
      rw [decide_eq_false_iff_not]
      intro hall
      have := hall b (by simp)
      omega
    · simp only [if_neg h2]
      by_cases h3 : b > m
      · simp only [if_pos h3]
        refine ev_some ?_
        symm
        rw [decide_eq_false_iff_not]
        intro hall
        have := hall b (by simp)
        omega
      · simp only [if_neg h3]
        have e : wrap64 ((pre.length : Int) + 1) = ((pre ++ [b]).length : Int) := by rw [wrap_id (by omega) (by omega)]; simp
        have := ih (pre ++ [b]) (by simpa using hl)
        rw [e]
        simp only [List.append_assoc, List.singleton_append] at this
        refine ev_eq this ?_
        have : (∀ c ∈ b :: ys, -m ≤ c ∧ c ≤ m) ↔ (∀ c ∈ ys, -m ≤ c ∧ c ≤ m) := by simp; omega
        simp only [this]
theorem within2 {m a b : Int} (h0 : 0 ≤ m) (h1 : m ≤ 9223372036854775807) : Ev (fun k => impl_within.f k m [a, b]) (decide ((-m ≤ a ∧ a ≤ m) ∧ -m ≤ b ∧ b ≤ m)) := by
  unfold impl_within.f
  refine ev_eq (within_l h0 h1 _ [] (by simp)) ?_
  simp
theorem gcd_l : ∀ (n : Nat) (a b : Int), b.natAbs ≤ n → a.natAbs ≤ 9223372036854775807 → b.natAbs ≤ 9223372036854775807 → Ev (fun k => impl_gcd.l0 k a b) (Int.gcd a b : Int) := by
  intro n
  induction n with
  | zero =>
    intro a b hb h0 h1
    obtain rfl : b = 0 := by omega
    refine Ev.step (fun k => by rw [impl_gcd.l0]) ?_
    simp only [if_true]
    refine ev_some ?_
    rw [wrap_id (by omega) (by omega), Int.gcd_zero]
    unfold mx; split <;> omega
  | succ n ih =>
    intro a b hb h0 h1
    refine Ev.step (fun k => by rw [impl_gcd.l0]) ?_
    by_cases hz : b = 0
    · subst hz
      simp only [if_true]
      refine ev_some ?_
      rw [wrap_id (by omega) (by omega), Int.gcd_zero]
      unfold mx; split <;> omega
    · simp only [if_neg hz]
      have hlt := tmod_natAbs_lt (a := a) hz
      refine ev_eq (ih b (Int.tmod a b) (by omega) (by omega) (by omega)) ?_
      rw [gcd_tmod]
theorem gcd_ev {a b : Int} (h0 : a.natAbs ≤ 9223372036854775807) (h1 : b.natAbs ≤ 9223372036854775807) : Ev (fun k => impl_gcd.f k a b) (Int.gcd a b : Int) := by
  unfold impl_gcd.f
  exact gcd_l b.natAbs a b (Nat.le_refl _) h0 h1
theorem l01Gcd_l : ∀ (n : Nat) (a b : Int), b.natAbs ≤ n → a.natAbs ≤ 9223372036854775807 → b.natAbs ≤ 9223372036854775807 → Ev (fun k => spec_l01Gcd.l0 k a b) (Int.gcd a b : Int) := by
  intro n
  induction n with
  | zero =>
    intro a b hb h0 h1
    obtain rfl : b = 0 := by omega
    refine Ev.step (fun k => by rw [spec_l01Gcd.l0]) ?_
    simp only [if_true]
    refine ev_some ?_
    rw [wrap_id (by omega) (by omega), Int.gcd_zero]
    unfold mx; split <;> omega
  | succ n ih =>
    intro a b hb h0 h1
    refine Ev.step (fun k => by rw [spec_l01Gcd.l0]) ?_
    by_cases hz : b = 0
    · subst hz
      simp only [if_true]
      refine ev_some ?_
      rw [wrap_id (by omega) (by omega), Int.gcd_zero]
      unfold mx; split <;> omega
    · simp only [if_neg hz]
      have hlt := tmod_natAbs_lt (a := a) hz
      refine ev_eq (ih b (Int.tmod a b) (by omega) (by omega) (by omega)) ?_
      rw [gcd_tmod]
theorem l01Gcd_ev {a b : Int} (h0 : a.natAbs ≤ 9223372036854775807) (h1 : b.natAbs ≤ 9223372036854775807) : Ev (fun k => spec_l01Gcd.f k a b) (Int.gcd a b : Int) := by
  unfold spec_l01Gcd.f
  exact l01Gcd_l b.natAbs a b (Nat.le_refl _) h0 h1
theorem IsEnd_ev {n d : Int} : Ev (fun k => impl_IsEnd.f k n d) (decide (EndOk n d)) := by
  unfold impl_IsEnd.f EndOk
  by_cases hd : d = 0
  · simp only [if_pos hd]
    exact ev_dec (by simp)
  · simp only [if_neg hd]
    rw [bnd (within2 (by omega) (by omega))]
    by_cases h1 : (-1000000 ≤ n ∧ n ≤ 1000000) ∧ -1000000 ≤ d ∧ d ≤ 1000000
    · simp only [h1, and_self, decide_true, if_true]
      by_cases h2 : d > 0
      · simp only [if_pos h2]
        rw [bnd (gcd_ev (by omega) (by omega))]
        exact ev_dec (by simp; omega)
      · simp only [if_neg h2]
        exact ev_dec (by simp; omega)
    · simp only [h1, decide_false, if_neg Bool.false_ne_true]
      exact ev_dec (by simp; omega)
theorem l01End_ev {n d : Int} : Ev (fun k => spec_l01End.f k n d) (decide (EndOk n d)) := by
  unfold spec_l01End.f EndOk
  by_cases hd : d = 0
  · simp only [if_pos hd]
    exact ev_dec (by simp)
  · simp only [if_neg hd, l01In_eq, Option.bind_some]
    by_cases h1 : 1 ≤ d ∧ d ≤ 1000000
    · simp only [h1, and_self, decide_true, if_true]
      by_cases h2 : -1000000 ≤ n ∧ n ≤ 1000000
      · simp only [h2, and_self, decide_true, if_true]
        rw [bnd (l01Gcd_ev (by omega) (by omega))]
        exact ev_dec (by simp; omega)
      · simp only [h2, decide_false, if_neg Bool.false_ne_true]
        exact ev_dec (by simp; omega)
    · simp only [h1, decide_false, if_neg Bool.false_ne_true]
      exact ev_dec (by simp; omega)
/-- The decimal text of a number. -/
def DT (n : Int) : ByteArray := ⟨(Go.Lib.itoa n).toArray⟩
theorem DT_size {n : Int} (h0 : -9223372036854775808 ≤ n) (h1 : n ≤ 9223372036854775807) : (DT n).size ≤ 21 := by
  have := Go.Lib.itoa_length_le n h0 h1
  unfold DT
  rw [Go.Lib.size_eq]
  exact this
theorem ba_ext {a b : ByteArray} (h : a.data.toList = b.data.toList) : a = b := by
  obtain ⟨⟨x⟩⟩ := a
  obtain ⟨⟨y⟩⟩ := b
  simp at h
  rw [h]
theorem ba_app (a b : ByteArray) : (a ++ b).data.toList = a.data.toList ++ b.data.toList := by
  obtain ⟨a⟩ := a
  obtain ⟨b⟩ := b
  rw [ByteArray.mk_append_mk]
theorem dec_nat : ∀ (n u : Nat), u ≤ n → u ≤ 9223372036854775807 → Ev (fun k => spec_l01Dec.f k (u : Int)) (⟨(Go.Lib.decDigits u).toArray⟩ : ByteArray) := by
  intro n
  induction n with
  | zero =>
    intro u hu h1
    have h10 : u < 10 := by omega
    refine Ev.step (fun k => by rw [spec_l01Dec.f]) ?_
    simp only [if_neg (show ¬ (u : Int) < 0 by omega), if_pos (show (u : Int) < 10 by omega)]
    refine ev_some ?_
    rw [wrap_id (by omega) (by omega), Go.Lib.decDigits_one h10]
    apply ba_ext
    show [UInt8.ofNat ((48 + (u : Int)) % 256).toNat] = [UInt8.ofNat (48 + u)]
    rw [show ((48 + (u : Int)) % 256).toNat = 48 + u by omega]
  | succ n ih =>
    intro u hu h1
    by_cases h10 : u < 10
    · refine Ev.step (fun k => by rw [spec_l01Dec.f]) ?_
      simp only [if_neg (show ¬ (u : Int) < 0 by omega), if_pos (show (u : Int) < 10 by omega)]
      refine ev_some ?_
      rw [wrap_id (by omega) (by omega), Go.Lib.decDigits_one h10]
      apply ba_ext
      show [UInt8.ofNat ((48 + (u : Int)) % 256).toNat] = [UInt8.ofNat (48 + u)]
      rw [show ((48 + (u : Int)) % 256).toNat = 48 + u by omega]
    · have hr := ih (u / 10) (by omega) (by omega)
      have ed : Int.tdiv (u : Int) 10 = ((u / 10 : Nat) : Int) := by rw [Int.tdiv_eq_ediv_of_nonneg (by omega)]; omega
      have em : Int.tmod (u : Int) 10 = ((u % 10 : Nat) : Int) := by rw [Int.tmod_eq_emod_of_nonneg (by omega)]; omega
      refine Ev.step (fun k => by rw [spec_l01Dec.f]) ?_
      simp only [if_neg (show ¬ (u : Int) < 0 by omega), if_neg (show ¬ (u : Int) < 10 by omega), ed, em]
      rw [wrap_id (x := ((u / 10 : Nat) : Int)) (by omega) (by omega), bnd hr, wrap_id (x := 48 + ((u % 10 : Nat) : Int)) (by omega) (by omega)]
      have hs : (⟨(Go.Lib.decDigits (u / 10)).toArray⟩ : ByteArray).size ≤ 20 := by
        rw [Go.Lib.size_eq]
        show (Go.Lib.decDigits (u / 10)).length ≤ 20
        rw [Go.Lib.decDigits_length]
        exact Go.Lib.nDigits_le20 _ (by omega)
      simp only [Option.bind_some, if_pos (show (⟨(Go.Lib.decDigits (u / 10)).toArray⟩ : ByteArray).size + (strOfNums [(48 + ((u % 10 : Nat) : Int)) % 256]).size ≤ 9223372036854775807 by rw [strOfNums_size, List.length_singleton]; omega)]
      refine ev_some ?_
      have hdd : Go.Lib.decDigits u = Go.Lib.decDigits (u / 10) ++ [UInt8.ofNat (48 + u % 10)] := by
        conv => lhs; rw [Go.Lib.decDigits]
        rw [dif_neg h10]
      apply ba_ext
      rw [ba_app, show (⟨(Go.Lib.decDigits u).toArray⟩ : ByteArray).data.toList = Go.Lib.decDigits u from rfl, hdd]
      show Go.Lib.decDigits (u / 10) ++ [UInt8.ofNat ((48 + ((u % 10 : Nat) : Int)) % 256).toNat] = Go.Lib.decDigits (u / 10) ++ [UInt8.ofNat (48 + u % 10)]
      rw [show ((48 + ((u % 10 : Nat) : Int)) % 256).toNat = 48 + u % 10 by omega]
theorem l01Dec_ev {n : Int} (h0 : -9223372036854775807 ≤ n) (h1 : n ≤ 9223372036854775807) : Ev (fun k => spec_l01Dec.f k n) (DT n) := by
  by_cases hn : n < 0
  · obtain ⟨u, rfl⟩ : ∃ u : Nat, n = -(u : Int) := ⟨n.natAbs, by omega⟩
    refine Ev.step (fun k => by rw [spec_l01Dec.f]) ?_
    simp only [if_pos hn]
    rw [show wrap64 (- -(u : Int)) = (u : Int) by rw [wrap_id (by omega) (by omega)]; omega, bnd (dec_nat u u (Nat.le_refl _) (by omega))]
    have hs : (⟨(Go.Lib.decDigits u).toArray⟩ : ByteArray).size ≤ 20 := by
      rw [Go.Lib.size_eq]
      show (Go.Lib.decDigits u).length ≤ 20
      rw [Go.Lib.decDigits_length]
      exact Go.Lib.nDigits_le20 _ (by omega)
    simp only [if_pos (show 1 + (⟨(Go.Lib.decDigits u).toArray⟩ : ByteArray).size ≤ 9223372036854775807 by omega)]
    refine ev_some ?_
    apply ba_ext
    rw [ba_app]
    unfold DT
    rw [Go.Lib.itoa_neg u (by omega)]
    rfl
  · obtain ⟨u, rfl⟩ : ∃ u : Nat, n = u := ⟨n.toNat, by omega⟩
    refine ev_eq (dec_nat u u (Nat.le_refl _) (by omega)) ?_
    unfold DT
    rw [Go.Lib.itoa_nonneg]
theorem decimal_eq {n : Int} (h0 : -9223372036854775808 ≤ n) (h1 : n ≤ 9223372036854775807) : impl_decimal.f n = some (DT n) := by
  unfold impl_decimal.f strconv_FormatInt_30.f
  rw [if_pos ⟨rfl, h0, h1⟩]
  rfl
theorem end_bounds {n d : Int} (h : EndOk n d) : (-1000000 ≤ n ∧ n ≤ 1000000) ∧ -1000000 ≤ d ∧ d ≤ 1000000 := by
  unfold EndOk at h
  split at h <;> omega
def ET (n d : Int) : ByteArray := if d = 0 then (⟨#[105, 110, 102]⟩ : ByteArray) else (DT n ++ (⟨#[47]⟩ : ByteArray)) ++ DT d
theorem ET_sizes {n d : Int} (hn : -1000000 ≤ n ∧ n ≤ 1000000) (hd : -1000000 ≤ d ∧ d ≤ 1000000) : (DT n).size + 1 ≤ 9223372036854775807 ∧ (DT n ++ (⟨#[47]⟩ : ByteArray)).size + (DT d).size ≤ 9223372036854775807 := by
  have h1 := DT_size (n := n) (by omega) (by omega)
  have h2 := DT_size (n := d) (by omega) (by omega)
  have h3 : (⟨#[47]⟩ : ByteArray).size = 1 := rfl
  rw [ByteArray.size_append, h3]
  omega
theorem specET_ev {n d : Int} (hn : -1000000 ≤ n ∧ n ≤ 1000000) (hd : -1000000 ≤ d ∧ d ≤ 1000000) : Ev (fun k => spec_l01EndText.f k n d) (ET n d) := by
  unfold spec_l01EndText.f ET
  by_cases hz : d = 0
  · simp only [if_pos hz]; exact Ev.now _
  · obtain ⟨s1, s2⟩ := ET_sizes hn hd
    simp only [if_neg hz]
    rw [bnd (l01Dec_ev (by omega) (by omega))]
    simp only [if_pos s1]
    rw [bnd (l01Dec_ev (by omega) (by omega))]
    simp only [if_pos s2]
    exact Ev.now _
theorem implET_eq {n d : Int} (hn : -1000000 ≤ n ∧ n ≤ 1000000) (hd : -1000000 ≤ d ∧ d ≤ 1000000) : impl_endText.f n d = some (ET n d) := by
  unfold impl_endText.f ET
  by_cases hz : d = 0
  · simp only [if_pos hz]
  · obtain ⟨s1, s2⟩ := ET_sizes hn hd
    simp only [if_neg hz, decimal_eq (show -9223372036854775808 ≤ n by omega) (show n ≤ 9223372036854775807 by omega), decimal_eq (show -9223372036854775808 ≤ d by omega) (show d ≤ 9223372036854775807 by omega), Option.bind_some, if_pos s1, if_pos s2]
def FnExactEndTextPure : Prop := ∀ (a0_0 : Int) (a0_1 : Int), (Lit.int .i64 a0_0).wf = true → (Lit.int .i64 a0_1).wf = true → ∃ k, laws_FnExactEndText.f k a0_0 a0_1 = some true
theorem FnExactEndText : FnExactEndTextPure := by
  intro a0_0 a0_1 w0 w1
  refine Ev.rounds (g := fun k => laws_FnExactEndText.f k a0_0 a0_1) ?_
  unfold laws_FnExactEndText.f
  simp only [laws_toEnd.f, Option.bind_some]
  have both : ∃ r, Ev (fun k => spec_EndText.f k a0_0 a0_1) r ∧ Ev (fun k => impl_EndText.f k a0_0 a0_1) r := by
    by_cases h : EndOk a0_0 a0_1
    · have hb := end_bounds h
      refine ⟨(ET a0_0 a0_1, 0), ?_, ?_⟩
      · unfold spec_EndText.f
        rw [bnd l01End_ev]
        simp only [decide_eq_true h, if_true]
        rw [bnd (specET_ev hb.1 hb.2)]
        exact Ev.now _
      · unfold impl_EndText.f
        rw [bnd IsEnd_ev]
        simp only [decide_eq_true h, if_true, implET_eq hb.1 hb.2, Option.bind_some]
        exact Ev.now _
    · refine ⟨((⟨#[]⟩ : ByteArray), 1), ?_, ?_⟩
      · unfold spec_EndText.f
        rw [bnd l01End_ev]
        simp only [decide_eq_false h, if_neg Bool.false_ne_true]
        exact Ev.now _
      · unfold impl_EndText.f
        rw [bnd IsEnd_ev]
        simp only [decide_eq_false h, if_neg Bool.false_ne_true]
        exact Ev.now _
  obtain ⟨r, h1, h2⟩ := both
  rw [bnd h1, bnd h2]
  simp only [if_true]
  exact Ev.now _

end Go.Proofs.YtgdkmchphpjifaaDoor.Pure

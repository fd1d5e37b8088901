-- Printed by the kit's print and repaired by a program of this session.
import Derived.Shelf.SlSortCmp.NoneTotal
import Derived.Test.YtkfodnlogflcpaaPFnExactLatticesInsidex0
import Derived.Test.YtkfodnlogflcpaaPFnExactLatticesInsidex4
import Derived.Test.YtkfodnlogflcpaaPFnExactLatticesInsidex5
import Derived.Test.YtkfodnlogflcpaaPFnExactLatticesInsidex6
namespace Go.Proofs.Ytkfodnlogflcpaa.PFnExactLatticesInside
open Go.RowKit Go.Proofs.YtkfodnlogflcpaaW.PrintWords Go.Proofs.YtkfodnlogflcpaaW.PrintLast Go.Proofs.YtkfodnlogflcpaaW.PrintMore
attribute [local go_sem] max2_int min2_int max_two min_two max_three min_three max_four min_four   -- for this text's walks alone
set_option linter.unusedVariables false
set_option linter.unusedSimpArgs false

/-! ### impl_times: function 39 -/
def impl_times.f (k : Nat) (a0 : Int) (a1 : Int) (a2 : Int) : Option (Int) := (impl_mod.f a0 a2).bind fun t199 => ((impl_mod.f a1 a2).bind fun t200 => ((bits_Mul64.f (IntKind.u64.wrap (t199)) (IntKind.u64.wrap (t200))).bind fun bt201 => (if (IntKind.u64.wrap (a2)) = 0 then (none) else ((bits_Div64.f k (Int.tmod bt201.1 (IntKind.u64.wrap (a2))) bt201.2 (IntKind.u64.wrap (a2))).bind fun bt203 => (some (wrap64 (bt203.2)))))))
theorem impl_times.mono : ∀ a0 a1 a2 k, LeO (impl_times.f k a0 a1 a2) (impl_times.f (k + 1) a0 a1 a2) := by
 intro a0 a1 a2 k
 unfold impl_times.f
 repeat' first
   | (with_reducible exact bits_Div64.mono _ _ _ _)
   | (with_reducible exact LeO.refl _)
   | (with_reducible exact LeO.none _)
   | (with_reducible refine LeO.ite ?_ ?_)
   | (with_reducible refine LeO.bind ?_ (fun _ => ?_))
   | refine LeO.ite ?_ ?_
   | refine LeO.bind ?_ (fun _ => ?_)
set_option maxHeartbeats 8000000 in
set_option maxRecDepth 100000 in
theorem impl_times.calls (k : Nat) (a0 : Int) (a1 : Int) (a2 : Int) (r : Int) (w : World) (h : impl_times.f k a0 a1 a2 = some r) :
  Calls Try.prog 39 #[.int .i64 a0, .int .i64 a1, .int .i64 a2] w fun e w' => e = .returned (.int .i64 r) ∧ Drawn0 w w' := by
 have H : ((impl_mod.f a0 a2).bind fun t199 => ((impl_mod.f a1 a2).bind fun t200 => ((bits_Mul64.f (IntKind.u64.wrap (t199)) (IntKind.u64.wrap (t200))).bind fun bt201 => (if (IntKind.u64.wrap (a2)) = 0 then (none) else ((bits_Div64.f k (Int.tmod bt201.1 (IntKind.u64.wrap (a2))) bt201.2 (IntKind.u64.wrap (a2))).bind fun bt203 => (some (wrap64 (bt203.2)))))))) = some r := h
 clear h
 replace H := Option.bind_eq_some_iff.mp H
 obtain ⟨t199, A40, H⟩ := H
 replace H : ((impl_mod.f a1 a2).bind fun t200 => ((bits_Mul64.f (IntKind.u64.wrap (t199)) (IntKind.u64.wrap (t200))).bind fun bt201 => (if (IntKind.u64.wrap (a2)) = 0 then (none) else ((bits_Div64.f k (Int.tmod bt201.1 (IntKind.u64.wrap (a2))) bt201.2 (IntKind.u64.wrap (a2))).bind fun bt203 => (some (wrap64 (bt203.2))))))) = some r := H
 have A4 := Aside0.mk A40
 clear A40
 replace H := Option.bind_eq_some_iff.mp H
 obtain ⟨t200, A50, H⟩ := H
 replace H : ((bits_Mul64.f (IntKind.u64.wrap (t199)) (IntKind.u64.wrap (t200))).bind fun bt201 => (if (IntKind.u64.wrap (a2)) = 0 then (none) else ((bits_Div64.f k (Int.tmod bt201.1 (IntKind.u64.wrap (a2))) bt201.2 (IntKind.u64.wrap (a2))).bind fun bt203 => (some (wrap64 (bt203.2)))))) = some r := H
 have A5 := Aside0.mk A50
 clear A50
 replace H := Option.bind_eq_some_iff.mp H
 obtain ⟨⟨t201, t202⟩, A60, H⟩ := H
 replace H : (if (IntKind.u64.wrap (a2)) = 0 then (none) else ((bits_Div64.f k (Int.tmod t201 (IntKind.u64.wrap (a2))) t202 (IntKind.u64.wrap (a2))).bind fun bt203 => (some (wrap64 (bt203.2))))) = some r := H
 have A6 := Aside0.mk A60
 clear A60
 by_cases c7 : (IntKind.u64.wrap (a2)) = 0
 ·rw [if_pos c7] at H
  exact absurd H (by simp)
 ·rw [if_neg c7] at H
  have c7b0 : ((IntKind.u64.wrap (a2)) == 0) = false := beq_eq_false_iff_ne.mpr c7
  have c7b1 : ((IntKind.u64.wrap (a2)) != 0) = true := bne_iff_ne.mpr c7
  replace H := Option.bind_eq_some_iff.mp H
  obtain ⟨⟨t203, t204⟩, A80, H⟩ := H
  replace H : (some (wrap64 (t204))) = some r := H
  have A8 := Aside0.mk A80
  clear A80
  obtain rfl := Option.some.inj H
  go_enter Try.func39, Try.ntmps39
  go_wp2_with (first | ((with_reducible refine gate_callee (f := 38) rfl ?_); refine g1 (some 14) Try.func38 #[.int .i64 a0, .int .i64 a2] ?_; (with_reducible refine (impl_mod.calls a0 a2 t199 _ A4.out).mono ?_); rintro e w' ⟨rfl, ⟨nd, rfl⟩⟩; refine ⟨_, rfl, ?_⟩) | ((with_reducible refine gate_callee (f := 38) rfl ?_); refine g1 (some 18) Try.func38 #[.int .i64 a1, .int .i64 a2] ?_; (with_reducible refine (impl_mod.calls a1 a2 t200 _ A5.out).mono ?_); rintro e w' ⟨rfl, ⟨nd, rfl⟩⟩; refine ⟨_, rfl, ?_⟩) | ((with_reducible refine gate_callee (f := 71) rfl ?_); refine g1 (some 20) Try.func71 #[.int .u64 (IntKind.u64.wrap (t199)), .int .u64 (IntKind.u64.wrap (t200))] ?_; (with_reducible refine (bits_Mul64.calls (IntKind.u64.wrap (t199)) (IntKind.u64.wrap (t200)) t201 t202 _ A6.out).mono ?_); rintro e w' ⟨rfl, ⟨nd, rfl⟩⟩; refine ⟨_, rfl, ?_⟩) | ((with_reducible refine gate_callee (f := 72) rfl ?_); refine g1 (some 31) Try.func72 #[.int .u64 (Int.tmod t201 (IntKind.u64.wrap (a2))), .int .u64 t202, .int .u64 (IntKind.u64.wrap (a2))] ?_; (with_reducible refine (bits_Div64.calls k (Int.tmod t201 (IntKind.u64.wrap (a2))) t202 (IntKind.u64.wrap (a2)) t203 t204 _ A8.out).mono ?_); rintro e w' ⟨rfl, ⟨nd, rfl⟩⟩; refine ⟨_, rfl, ?_⟩))
  go_ret
  exact ⟨by first | rfl | (simp; done) | (simp [*]; done), by repeat (first | exact Drawn0.refl _ | apply Drawn0.step)⟩

-- NOT PRINTED: function 88 (impl_Lattice_88)

-- NOT PRINTED: function 99 (impl_Lattice_99)

-- NOT PRINTED: function 89 (impl_Lattice_89)

/-! ### slices.SortFunc and its closure -/
/-! #### cmp_Or_int: function 42 -/
def cmp_Or_int.l0 : Nat → Int → List Int → Int → Int → Option (Int)
 | 0, _, _, _, _ => none
 | k + 1, x3, x6, x7, x8 => if x8 < x7 then (if 0 ≤ x8 then (if x8 < (x6.length : Int) then (if (rd x6 x8) = x3 then (cmp_Or_int.l0 k x3 x6 x7 (wrap64 (x8 + 1))) else (some (rd x6 x8))) else (none)) else (none)) else (some x3)
def cmp_Or_int.f (k : Nat) (l0 : List Int) : Option (Int) := cmp_Or_int.l0 k 0 l0 (l0.length : Int) 0
theorem cmp_Or_int.mono_l : ∀ k, (∀ y0 y1 y2 y3, LeO (cmp_Or_int.l0 k y0 y1 y2 y3) (cmp_Or_int.l0 (k + 1) y0 y1 y2 y3))
 | 0 => fun _ _ _ _ r h => by simp [cmp_Or_int.l0] at h
 | k + 1 => by
  have ih0 := cmp_Or_int.mono_l k
  ·intro y0 y1 y2 y3
   unfold cmp_Or_int.l0
   repeat' first
   | (with_reducible exact ih0 _ _ _ _)
   | (with_reducible exact LeO.refl _)
   | (with_reducible exact LeO.none _)
   | (with_reducible refine LeO.ite ?_ ?_)
   | (with_reducible refine LeO.bind ?_ (fun _ => ?_))
   | refine LeO.ite ?_ ?_
   | refine LeO.bind ?_ (fun _ => ?_)
theorem cmp_Or_int.mono : ∀ a0 k, LeO (cmp_Or_int.f k a0) (cmp_Or_int.f (k + 1) a0) := by
 intro a0 k
 have ih0 := cmp_Or_int.mono_l k
 unfold cmp_Or_int.f
 repeat' first
   | (with_reducible exact ih0 _ _ _ _)
   | (with_reducible exact LeO.refl _)
   | (with_reducible exact LeO.none _)
   | (with_reducible refine LeO.ite ?_ ?_)
   | (with_reducible refine LeO.bind ?_ (fun _ => ?_))
   | refine LeO.ite ?_ ?_
   | refine LeO.bind ?_ (fun _ => ?_)
set_option maxHeartbeats 8000000 in
set_option maxRecDepth 100000 in
theorem cmp_Or_int.calls (k : Nat) (A0 : Option Addr) (c0 : Nat) (l0 : List Int) (r : Int) (w : World) (hr0 : Kd.C (Kd.int .i64) w A0 l0.length l0) (hc0 : l0.length ≤ c0) (h : cmp_Or_int.f k l0 = some r) :
  Calls Try.prog 42 #[.slice A0 l0.length c0] w fun e w' => e = .returned (.int .i64 r) ∧ Drawn0 w w' := by
 have HR0 := Aside0.mk hr0
 have HC0 := Aside0.mk hc0
 clear hr0 hc0
 have H : (cmp_Or_int.l0 k 0 l0 (l0.length : Int) 0) = some r := h
 clear h
 have H' := Aside0.mk H
 clear H
 go_enter Try.func42, Try.ntmps42
 go_wp2
 go_loopg [8] k (fun kq v8 w' => ∃ (x8_1 : Int), v8 = .int .i64 x8_1 ∧ Aside0 (cmp_Or_int.l0 kq 0 l0 (l0.length : Int) x8_1 = some r) ∧ Aside0 (kq ≤ k) ∧ Drawn0 w w')
 case atStart => exact ⟨(0), (by first | rfl | (simp; done) | (simp [*]; done)), H', ⟨Nat.le_refl _⟩, by repeat (first | exact Drawn0.refl _ | apply Drawn0.step)⟩
 case round =>
  clear H'
  obtain ⟨x8_1, rfl, HA, HK1, ⟨m1, rfl⟩⟩ := hrel
  cases gk with
  | zero => exact absurd HA.out (by simp [cmp_Or_int.l0])
  | succ k1 =>
   have H := HA.out
   clear HA
   simp only [cmp_Or_int.l0] at H
   by_cases c2 : x8_1 < (l0.length : Int)
   ·rw [if_pos c2] at H
    have c2b0 : decide (x8_1 < (l0.length : Int)) = true := decide_eq_true c2
    clear c2
    by_cases c3 : 0 ≤ x8_1
    ·rw [if_pos c3] at H
     have c3b0 : decide (0 ≤ x8_1) = true := decide_eq_true c3
     clear c3
     by_cases c4 : x8_1 < (l0.length : Int)
     ·rw [if_pos c4] at H
      have c4b0 : decide (x8_1 < (l0.length : Int)) = true := decide_eq_true c4
      clear c4
      by_cases c5 : (rd l0 x8_1) = 0
      ·rw [if_pos c5] at H
       have c5b0 : ((rd l0 x8_1) == 0) = true := beq_iff_eq.mpr c5
       have c5b1 : ((rd l0 x8_1) != 0) = false := bne_eq_false_iff_eq.mpr c5
       clear c5
       have H' := Aside0.mk H
       clear H
       have p101 : 0 ≤ (x8_1 : Int) := of_decide_eq_true (by first | (with_reducible assumption) | assumption)
       have q101 : x8_1 < (l0.length : Int) := of_decide_eq_true (by first | (with_reducible assumption) | assumption)
       obtain ⟨ad101, e101, hx101_0⟩ := Kd.at_int HR0.out x8_1 p101 q101
       cases e101
       replace p101 := eq_true p101
       replace q101 := eq_true q101
       go_wp2
       go_roundg k1
       case measure => have := HK1.out; omega
       case rel => exact ⟨(wrap64 (x8_1 + 1)), (by first | rfl | (simp; done) | (simp [*]; done)), H', ⟨by have := HK1.out; omega⟩, by repeat (first | exact Drawn0.refl _ | apply Drawn0.step)⟩
      ·rw [if_neg c5] at H
       have c5b0 : ((rd l0 x8_1) == 0) = false := beq_eq_false_iff_ne.mpr c5
       have c5b1 : ((rd l0 x8_1) != 0) = true := bne_iff_ne.mpr c5
       obtain rfl := Option.some.inj H
       have p101 : 0 ≤ (x8_1 : Int) := of_decide_eq_true (by first | (with_reducible assumption) | assumption)
       have q101 : x8_1 < (l0.length : Int) := of_decide_eq_true (by first | (with_reducible assumption) | assumption)
       obtain ⟨ad101, e101, hx101_0⟩ := Kd.at_int HR0.out x8_1 p101 q101
       cases e101
       replace p101 := eq_true p101
       replace q101 := eq_true q101
       go_wp2
       go_ret
       exact ⟨by first | rfl | (simp; done) | (simp [*]; done), by repeat (first | exact Drawn0.refl _ | apply Drawn0.step)⟩
     ·rw [if_neg c4] at H
      exact absurd H (by simp)
    ·rw [if_neg c3] at H
     exact absurd H (by simp)
   ·rw [if_neg c2] at H
    have c2b0 : decide (x8_1 < (l0.length : Int)) = false := decide_eq_false c2
    clear c2
    obtain rfl := Option.some.inj H
    go_wp2
    go_ret
    exact ⟨by first | rfl | (simp; done) | (simp [*]; done), by repeat (first | exact Drawn0.refl _ | apply Drawn0.step)⟩

/-! #### cmp_isNaN_int64: function 75 -/
def cmp_isNaN_int64.f (a0 : Int) : Option (Bool) := some (a0 != a0)
set_option maxHeartbeats 8000000 in
set_option maxRecDepth 100000 in
theorem cmp_isNaN_int64.calls (a0 : Int) (r : Bool) (w : World) (h : cmp_isNaN_int64.f a0 = some r) :
  Calls Try.prog 75 #[.int .i64 a0] w fun e w' => e = .returned (.bool r) ∧ Drawn0 w w' := by
 have H : (some (a0 != a0)) = some r := h
 clear h
 obtain rfl := Option.some.inj H
 go_enter Try.func75, Try.ntmps75
 go_wp2
 go_ret
 exact ⟨by first | rfl | (simp; done) | (simp [*]; done), by repeat (first | exact Drawn0.refl _ | apply Drawn0.step)⟩

/-! #### cmp_Compare_int64: function 43 -/
def cmp_Compare_int64.f (a0 : Int) (a1 : Int) : Option (Int) := (cmp_isNaN_int64.f a0).bind fun t102 => ((cmp_isNaN_int64.f a1).bind fun t103 => (if t102 = true then (if t103 = true then (some 0) else (some (-1))) else (if t103 = true then (some 1) else (if a0 < a1 then (some (-1)) else (if a0 > a1 then (some 1) else (some 0))))))
set_option maxHeartbeats 8000000 in
set_option maxRecDepth 100000 in
theorem cmp_Compare_int64.calls (a0 : Int) (a1 : Int) (r : Int) (w : World) (h : cmp_Compare_int64.f a0 a1 = some r) :
  Calls Try.prog 43 #[.int .i64 a0, .int .i64 a1] w fun e w' => e = .returned (.int .i64 r) ∧ Drawn0 w w' := by
 have H : ((cmp_isNaN_int64.f a0).bind fun t102 => ((cmp_isNaN_int64.f a1).bind fun t103 => (if t102 = true then (if t103 = true then (some 0) else (some (-1))) else (if t103 = true then (some 1) else (if a0 < a1 then (some (-1)) else (if a0 > a1 then (some 1) else (some 0))))))) = some r := h
 clear h
 replace H := Option.bind_eq_some_iff.mp H
 obtain ⟨t102, A30, H⟩ := H
 replace H : ((cmp_isNaN_int64.f a1).bind fun t103 => (if t102 = true then (if t103 = true then (some 0) else (some (-1))) else (if t103 = true then (some 1) else (if a0 < a1 then (some (-1)) else (if a0 > a1 then (some 1) else (some 0)))))) = some r := H
 have A3 := Aside0.mk A30
 clear A30
 replace H := Option.bind_eq_some_iff.mp H
 obtain ⟨t103, A40, H⟩ := H
 replace H : (if t102 = true then (if t103 = true then (some 0) else (some (-1))) else (if t103 = true then (some 1) else (if a0 < a1 then (some (-1)) else (if a0 > a1 then (some 1) else (some 0))))) = some r := H
 have A4 := Aside0.mk A40
 clear A40
 by_cases c5 : t102 = true
 ·subst c5
  have H1 : (if t103 = true then (some 0) else (some (-1))) = some r := by rw [if_pos rfl] at H; exact H
  clear H
  have H := H1
  clear H1
  by_cases c6 : t103 = true
  ·subst c6
   have H1 : (some 0) = some r := by rw [if_pos rfl] at H; exact H
   clear H
   have H := H1
   clear H1
   obtain rfl := Option.some.inj H
   go_enter Try.func43, Try.ntmps43
   go_wp2_with (first | ((with_reducible refine gate_callee (f := 75) rfl ?_); refine g1 (some 8) Try.func75 #[.int .i64 a0] ?_; (with_reducible refine (cmp_isNaN_int64.calls a0 true _ A3.out).mono ?_); rintro e w' ⟨rfl, ⟨nd, rfl⟩⟩; refine ⟨_, rfl, ?_⟩) | ((with_reducible refine gate_callee (f := 75) rfl ?_); refine g1 (some 10) Try.func75 #[.int .i64 a1] ?_; (with_reducible refine (cmp_isNaN_int64.calls a1 true _ A4.out).mono ?_); rintro e w' ⟨rfl, ⟨nd, rfl⟩⟩; refine ⟨_, rfl, ?_⟩))
   go_ret
   exact ⟨by first | rfl | (simp; done) | (simp [*]; done), by repeat (first | exact Drawn0.refl _ | apply Drawn0.step)⟩
  ·replace c6 := Bool.eq_false_iff.mpr c6
   subst c6
   have H1 : (some (-1)) = some r := by rw [if_neg (show ¬ (false = true) by decide)] at H; exact H
   clear H
   have H := H1
   clear H1
   obtain rfl := Option.some.inj H
   go_enter Try.func43, Try.ntmps43
   go_wp2_with (first | ((with_reducible refine gate_callee (f := 75) rfl ?_); refine g1 (some 8) Try.func75 #[.int .i64 a0] ?_; (with_reducible refine (cmp_isNaN_int64.calls a0 true _ A3.out).mono ?_); rintro e w' ⟨rfl, ⟨nd, rfl⟩⟩; refine ⟨_, rfl, ?_⟩) | ((with_reducible refine gate_callee (f := 75) rfl ?_); refine g1 (some 10) Try.func75 #[.int .i64 a1] ?_; (with_reducible refine (cmp_isNaN_int64.calls a1 false _ A4.out).mono ?_); rintro e w' ⟨rfl, ⟨nd, rfl⟩⟩; refine ⟨_, rfl, ?_⟩))
   go_ret
   exact ⟨by first | rfl | (simp; done) | (simp [*]; done), by repeat (first | exact Drawn0.refl _ | apply Drawn0.step)⟩
 ·replace c5 := Bool.eq_false_iff.mpr c5
  subst c5
  have H1 : (if t103 = true then (some 1) else (if a0 < a1 then (some (-1)) else (if a0 > a1 then (some 1) else (some 0)))) = some r := by rw [if_neg (show ¬ (false = true) by decide)] at H; exact H
  clear H
  have H := H1
  clear H1
  by_cases c7 : t103 = true
  ·subst c7
   have H1 : (some 1) = some r := by rw [if_pos rfl] at H; exact H
   clear H
   have H := H1
   clear H1
   obtain rfl := Option.some.inj H
   go_enter Try.func43, Try.ntmps43
   go_wp2_with (first | ((with_reducible refine gate_callee (f := 75) rfl ?_); refine g1 (some 8) Try.func75 #[.int .i64 a0] ?_; (with_reducible refine (cmp_isNaN_int64.calls a0 false _ A3.out).mono ?_); rintro e w' ⟨rfl, ⟨nd, rfl⟩⟩; refine ⟨_, rfl, ?_⟩) | ((with_reducible refine gate_callee (f := 75) rfl ?_); refine g1 (some 10) Try.func75 #[.int .i64 a1] ?_; (with_reducible refine (cmp_isNaN_int64.calls a1 true _ A4.out).mono ?_); rintro e w' ⟨rfl, ⟨nd, rfl⟩⟩; refine ⟨_, rfl, ?_⟩))
   go_ret
   exact ⟨by first | rfl | (simp; done) | (simp [*]; done), by repeat (first | exact Drawn0.refl _ | apply Drawn0.step)⟩
  ·replace c7 := Bool.eq_false_iff.mpr c7
   subst c7
   have H1 : (if a0 < a1 then (some (-1)) else (if a0 > a1 then (some 1) else (some 0))) = some r := by rw [if_neg (show ¬ (false = true) by decide)] at H; exact H
   clear H
   have H := H1
   clear H1
   by_cases c8 : a0 < a1
   ·rw [if_pos c8] at H
    have c8b0 : decide (a0 < a1) = true := decide_eq_true c8
    clear c8
    obtain rfl := Option.some.inj H
    go_enter Try.func43, Try.ntmps43
    go_wp2_with (first | ((with_reducible refine gate_callee (f := 75) rfl ?_); refine g1 (some 8) Try.func75 #[.int .i64 a0] ?_; (with_reducible refine (cmp_isNaN_int64.calls a0 false _ A3.out).mono ?_); rintro e w' ⟨rfl, ⟨nd, rfl⟩⟩; refine ⟨_, rfl, ?_⟩) | ((with_reducible refine gate_callee (f := 75) rfl ?_); refine g1 (some 10) Try.func75 #[.int .i64 a1] ?_; (with_reducible refine (cmp_isNaN_int64.calls a1 false _ A4.out).mono ?_); rintro e w' ⟨rfl, ⟨nd, rfl⟩⟩; refine ⟨_, rfl, ?_⟩))
    go_ret
    exact ⟨by first | rfl | (simp; done) | (simp [*]; done), by repeat (first | exact Drawn0.refl _ | apply Drawn0.step)⟩
   ·rw [if_neg c8] at H
    have c8b0 : decide (a0 < a1) = false := decide_eq_false c8
    clear c8
    by_cases c9 : a0 > a1
    ·rw [if_pos c9] at H
     have c9b0 : decide (a1 < a0) = true := decide_eq_true c9
     clear c9
     obtain rfl := Option.some.inj H
     go_enter Try.func43, Try.ntmps43
     go_wp2_with (first | ((with_reducible refine gate_callee (f := 75) rfl ?_); refine g1 (some 8) Try.func75 #[.int .i64 a0] ?_; (with_reducible refine (cmp_isNaN_int64.calls a0 false _ A3.out).mono ?_); rintro e w' ⟨rfl, ⟨nd, rfl⟩⟩; refine ⟨_, rfl, ?_⟩) | ((with_reducible refine gate_callee (f := 75) rfl ?_); refine g1 (some 10) Try.func75 #[.int .i64 a1] ?_; (with_reducible refine (cmp_isNaN_int64.calls a1 false _ A4.out).mono ?_); rintro e w' ⟨rfl, ⟨nd, rfl⟩⟩; refine ⟨_, rfl, ?_⟩))
     go_ret
     exact ⟨by first | rfl | (simp; done) | (simp [*]; done), by repeat (first | exact Drawn0.refl _ | apply Drawn0.step)⟩
    ·rw [if_neg c9] at H
     have c9b0 : decide (a1 < a0) = false := decide_eq_false c9
     clear c9
     obtain rfl := Option.some.inj H
     go_enter Try.func43, Try.ntmps43
     go_wp2_with (first | ((with_reducible refine gate_callee (f := 75) rfl ?_); refine g1 (some 8) Try.func75 #[.int .i64 a0] ?_; (with_reducible refine (cmp_isNaN_int64.calls a0 false _ A3.out).mono ?_); rintro e w' ⟨rfl, ⟨nd, rfl⟩⟩; refine ⟨_, rfl, ?_⟩) | ((with_reducible refine gate_callee (f := 75) rfl ?_); refine g1 (some 10) Try.func75 #[.int .i64 a1] ?_; (with_reducible refine (cmp_isNaN_int64.calls a1 false _ A4.out).mono ?_); rintro e w' ⟨rfl, ⟨nd, rfl⟩⟩; refine ⟨_, rfl, ?_⟩))
     go_ret
     exact ⟨by first | rfl | (simp; done) | (simp [*]; done), by repeat (first | exact Drawn0.refl _ | apply Drawn0.step)⟩

/-! #### impl_LatticesLess: function 41 -/
def impl_LatticesLess.f (k : Nat) (a0_0 : Int) (a0_1 : Int) (a0_2 : Int) (a1_0 : Int) (a1_1 : Int) (a1_2 : Int) : Option (Int) := (cmp_Compare_int64.f a0_0 a1_0).bind fun t106 => ((cmp_Compare_int64.f a0_1 a1_1).bind fun t107 => ((cmp_Or_int.f k (([t106, t107] : List Int))).bind fun t111 => (some t111)))
theorem impl_LatticesLess.mono : ∀ a0 a1 a2 a3 a4 a5 k, LeO (impl_LatticesLess.f k a0 a1 a2 a3 a4 a5) (impl_LatticesLess.f (k + 1) a0 a1 a2 a3 a4 a5) := by
 intro a0 a1 a2 a3 a4 a5 k
 unfold impl_LatticesLess.f
 repeat' first
   | (with_reducible exact cmp_Or_int.mono _ _)
   | (with_reducible exact LeO.refl _)
   | (with_reducible exact LeO.none _)
   | (with_reducible refine LeO.ite ?_ ?_)
   | (with_reducible refine LeO.bind ?_ (fun _ => ?_))
   | refine LeO.ite ?_ ?_
   | refine LeO.bind ?_ (fun _ => ?_)
def impl_LatticesLess.T1 : Bool × List (List Nat × List Nat) := (true, [([], []), ([0], [0]), ([], []), ([2], [2]), ([1, 3], [1, 3]), ([], []), ([5], [5]), ([], []), ([7], [7]), ([6, 8, 4], [6, 8]), ([4, 9], [4, 9]), ([10, 9], [10]), ([11, 11, 0, 1, 2, 3, 4, 5, 6, 7, 8, 9, 10, 11], [11])])
def impl_LatticesLess.B1 : List Nat := [0, 1, 0, 4, 15, 0, 32, 0, 128, 511, 1023, 2047, 4095]
theorem impl_LatticesLess.tab1 : rtab .any (opsOf Try.f41 1) = impl_LatticesLess.T1 := by kernel_rfl
theorem impl_LatticesLess.bits1 : waitsOk impl_LatticesLess.T1.2 impl_LatticesLess.B1 = true := by kernel_rfl
theorem grown_of {w W : World} (h : Below w.heap.size w W) (hd : w.drawn ≤ W.drawn) : ∃ q os', W = Go.Sort.grow (w.drewN q) os' := by
 refine ⟨W.drawn - w.drawn, W.heap.extract w.heap.size W.heap.size, ?_⟩
 have e1 : W.heap = w.heap ++ W.heap.extract w.heap.size W.heap.size := by
  refine Array.ext_getElem? fun i => ?_
  by_cases hi : i < w.heap.size
  ·rw [Array.getElem?_append_left hi, h.block i hi]
  ·rw [Array.getElem?_append_right (by omega), Array.getElem?_extract]
   have := h.size
   by_cases hj : i < W.heap.size
   ·rw [if_pos (by omega), show w.heap.size + (i - w.heap.size) = i by omega]
   ·rw [if_neg (by omega), Array.getElem?_eq_none (by omega)]
 have e2 : W.drawn = w.drawn + (W.drawn - w.drawn) := by omega
 have e3 := h.os; have e4 := h.tape; have e5 := h.output
 unfold Go.Sort.grow World.drewN
 cases W with | mk hp tp dr os out => simp only [World.mk.injEq]; exact ⟨e1, e4, e2, e3, e5⟩
section
variable {P : Program} {ops : Array Oper} {rest : List Oper} {o : Oper} {a : Act} {Q : Exit → Act → World → Prop}
theorem box_ev {W : World} (hgd : o.guard = none) {N : Tmp} (_hd : o.dst = some N) {cs : Array Value} {t : TypeId}
  (hrun : (execOp a.eval o).run P W = .ok (.value (.pointer (some ⟨W.heap.size, 0, none⟩))) (W.alloc (.cells cs t (0, 0))))
  (h : ∀ g, g = W.heap.size → ∀ w1, w1.heap[g]? = some (.cells cs t (0, 0)) → Below W.heap.size W w1 → W.drawn ≤ w1.drawn → wpList P ops Q rest (a.put o.dst (.pointer (some ⟨g, 0, none⟩))) w1) : wpList P ops Q (o :: rest) a W :=
 Kd.event_run hgd hrun (h _ rfl _ (blk_new W _) (below_alloc (Below.refl _ _) _) (Nat.le_refl _))
variable {Kc : Act → World → Prop} {α : Type}
theorem lit_ev (d : Kd α) {w0 W : World} (base e : Nat) (hw : Region.wanted o (yielded ops a.tmps) = true) {N : Tmp} (_hd : o.dst = some N) {xs : List α} {inner : List Value} {ok okp : Nat → Prop}
  (hrun : (execOp a.eval o).run P W = .ok (.value (.slice (some ⟨W.heap.size, 0, none⟩) xs.length xs.length)) (W.alloc (.cells inner.toArray e)))
  (hrep : Reps (d.M W base okp) d.sz xs inner) (hok : ∀ k, okp k → ok k) (hfresh : ok W.heap.size) (HB : Below base w0 W) (hbase : base ≤ W.heap.size) (hm : xs.length ≤ 9223372036854775807)
  (h : ∀ v1 w1, d.R e w1 base ok v1 xs → Below base w0 w1 → W.grownBy w1 none → (∃ b, v1.ownBlock = some b ∧ W.heap.size ≤ b) → W.drawn ≤ w1.drawn → Kc (a.put o.dst v1) w1) : if Region.wanted o (yielded ops a.tmps) = true then Oper.wp P o a W Kc Q else Kc (a.put o.dst undef) W := by
 refine event_step hw hrun (h _ _ ⟨fun k hk => ?_, inner, ?_, ?_⟩ (HB.alloc hbase _) (World.grownBy_alloc W _ none) ⟨W.heap.size, by simp [Value.ownBlock], Nat.le_refl _⟩ (Nat.le_refl _))
 ·have : W.heap.size = k := by simpa [Value.ownBlock] using hk
  subst this
  exact hfresh
 ·have h2 := World.ownsRow_lit (base := base) (e := e) (size := d.sz) W inner.toArray xs.length hbase (by simpa [maxLen] using hm) (by simpa using hrep.1)
  simpa using h2
 ·refine hrep.imp_ (fun p c hp => d.M_mono (fun k hk => ⟨hok k hk.1, fun he => ?_⟩) (Kd.M_below (d.M_bound hp) (below_alloc (Below.refl _ _) _)))
  have h3 : k = W.heap.size := by simpa [Value.ownBlock] using he
  have := hk.2.2.1
  omega
end
set_option maxHeartbeats 8000000 in
set_option maxRecDepth 100000 in
theorem impl_LatticesLess.calls (k : Nat) (a0_0 : Int) (a0_1 : Int) (a0_2 : Int) (a1_0 : Int) (a1_1 : Int) (a1_2 : Int) (r : Int) (w : World) (h : impl_LatticesLess.f k a0_0 a0_1 a0_2 a1_0 a1_1 a1_2 = some r) :
  Calls Try.prog 41 #[.agg #[.int .i64 a0_0, .int .i64 a0_1, .int .i64 a0_2], .agg #[.int .i64 a1_0, .int .i64 a1_1, .int .i64 a1_2]] w fun e w' => e = .returned (.int .i64 r) ∧ ∃ q os', w' = Go.Sort.grow (w.drewN q) os' := by
 have hu27 := Try.underlying27
 have HB := Aside0.mk (Below.refl w.heap.size w)
 have H : ((cmp_Compare_int64.f a0_0 a1_0).bind fun t106 => ((cmp_Compare_int64.f a0_1 a1_1).bind fun t107 => ((cmp_Or_int.f k (([t106, t107] : List Int))).bind fun t111 => (some t111)))) = some r := h
 clear h
 replace H := Option.bind_eq_some_iff.mp H
 obtain ⟨t106, A30, H⟩ := H
 replace H : ((cmp_Compare_int64.f a0_1 a1_1).bind fun t107 => ((cmp_Or_int.f k (([t106, t107] : List Int))).bind fun t111 => (some t111))) = some r := H
 have A3 := Aside0.mk A30
 clear A30
 replace H := Option.bind_eq_some_iff.mp H
 obtain ⟨t107, A40, H⟩ := H
 replace H : ((cmp_Or_int.f k (([t106, t107] : List Int))).bind fun t111 => (some t111)) = some r := H
 have A4 := Aside0.mk A40
 clear A40
 obtain ⟨y108, hy108⟩ : ∃ y_ : List Int, y_ = (([t106, t107] : List Int)) := ⟨_, rfl⟩
 replace H : ((cmp_Or_int.f k y108).bind fun t111 => (some t111)) = some r := by first | (rw [hy108]; with_reducible exact H) | (have H2_ := (Option.bind_some _ _).symm.trans H; rw [hy108]; with_reducible exact H2_) | (have H2_ := (Option.bind_some _ _).symm.trans H; with_reducible exact H2_) | with_reducible exact H | (rw [hy108]; exact H) | exact H
 have Ny108 := Aside0.mk hy108
 clear hy108
 replace H := Option.bind_eq_some_iff.mp H
 obtain ⟨t111, A50, H⟩ := H
 replace H : (some t111) = some r := H
 have A5 := Aside0.mk A50
 clear A50
 obtain rfl := Option.some.inj H
 go_enter Try.func41, Try.ntmps41
 try go_wp2_with (first | ((with_reducible refine gate_dst (N := 2) rfl ?_); refine box_ev ?hg (N := 2) ?hd (cs := #[.int .i64 a0_0, .int .i64 a0_1, .int .i64 a0_2]) (t := 27) ?hr ?_; (case hd => rfl); (case hg => rfl); (case hr => first | (go_simp; done) | (go_simp; rfl)); intro gb104 hg w6 hbox hb hdw6; have BK104 := Aside0.mk (hbox); have GW104 := sg hg; have GE104 := sg hg; replace HB := bs hb; clear hb hbox hg) | ((with_reducible refine gate_dst (N := 3) rfl ?_); refine box_ev ?hg (N := 3) ?hd (cs := #[.int .i64 a1_0, .int .i64 a1_1, .int .i64 a1_2]) (t := 27) ?hr ?_; (case hd => rfl); (case hg => rfl); (case hr => first | (go_simp; done) | (go_simp; rfl)); intro gb105 hg w7 hbox hb hdw7; have BK105 := Aside0.mk (hbox); have GW105 := sg hg; have GE105 := sg hg; have NB104_105 := nl hg BK104; have NB105_104 := ng hg BK104; replace BK104 := bb BK104 hb; replace HB := bs hb; clear hb hbox hg))
 have n0_ := Aside0.mk (blk_drew BK104.out)
 have n1_ := Aside0.mk (blk_drew BK105.out)
 have n2_ := Aside0.mk (below_drew1 HB.out)
 clear BK104
 clear BK105
 clear HB
 have BK104 := n0_
 have BK105 := n1_
 have HB := n2_
 clear n0_ n1_ n2_
 refine start_ (n := 13) (S := fun w' => w'.cell? ⟨gb104, 0, none⟩ = some (.int .i64 a0_0) ∧ w'.cell? ⟨gb104, 1, none⟩ = some (.int .i64 a0_1) ∧ w'.cell? ⟨gb104, 2, none⟩ = some (.int .i64 a0_2) ∧ w'.cell? ⟨gb105, 0, none⟩ = some (.int .i64 a1_0) ∧ w'.cell? ⟨gb105, 1, none⟩ = some (.int .i64 a1_1) ∧ w'.cell? ⟨gb105, 2, none⟩ = some (.int .i64 a1_2)) (ds := []) #[false, false, false, false, false, false, false, false, false, false, false, false, false] (by kernel_rfl) rfl rfl ⟨(blk_cell BK104.out 0).trans rfl, (blk_cell BK104.out 1).trans rfl, (blk_cell BK104.out 2).trans rfl, (blk_cell BK105.out 0).trans rfl, (blk_cell BK105.out 1).trans rfl, (blk_cell BK105.out 2).trans rfl⟩ (fun hHeld => ?_); refine with_tabW impl_LatticesLess.tab1 impl_LatticesLess.bits1 (fun HT_ HW_ => ?_)
 have hdw8 : w7.drawn ≤ w7.drew.drawn := Nat.le_succ _
 generalize w7.drew = w8 at BK104 BK105 HB hHeld hdw8 ⊢
 refine pu 0 (some 5) #[true, false, false, false, false, false, false, false, false, false, false, false, false] HT_ ?_
 refine pu 2 (some 7) #[true, false, true, false, false, false, false, false, false, false, false, false, false] HT_ ?_
 refine pu 5 (some 10) #[true, false, true, false, false, true, false, false, false, false, false, false, false] HT_ ?_
 refine pu 7 (some 12) #[true, false, true, false, false, true, false, true, false, false, false, false, false] HT_ ?_
 refine take_ (i := 1) (N := some 6) (v := ?_) (a' := ?_) #[true, true, true, false, false, true, false, true, false, false, false, false, false] rfl rfl (take_ofW HT_.out HW_.out (by kernel_rfl)) (fun _ _ _ h => h) (Or.inl ⟨by rfl, ?_⟩) hHeld ?_ ?_
 rotate_left
 ·rintro w' ⟨s0, s1, s2, s3, s4, s5⟩
  go_simp
  with_reducible rfl
 rotate_left
 ·simp only [Act.put, List.setIfInBounds_toArray, List.set_cons_zero, List.set_cons_succ, i64_w, i32_w]
  rfl
 refine take_ (i := 3) (N := some 8) (v := ?_) (a' := ?_) #[true, true, true, true, false, true, false, true, false, false, false, false, false] rfl rfl (take_ofW HT_.out HW_.out (by kernel_rfl)) (fun _ _ _ h => h) (Or.inl ⟨by rfl, ?_⟩) hHeld ?_ ?_
 rotate_left
 ·rintro w' ⟨s0, s1, s2, s3, s4, s5⟩
  go_simp
  with_reducible rfl
 rotate_left
 ·simp only [Act.put, List.setIfInBounds_toArray, List.set_cons_zero, List.set_cons_succ, i64_w, i32_w]
  rfl
 refine take_ (i := 6) (N := some 11) (v := ?_) (a' := ?_) #[true, true, true, true, false, true, true, true, false, false, false, false, false] rfl rfl (take_ofW HT_.out HW_.out (by kernel_rfl)) (fun _ _ _ h => h) (Or.inl ⟨by rfl, ?_⟩) hHeld ?_ ?_
 rotate_left
 ·rintro w' ⟨s0, s1, s2, s3, s4, s5⟩
  go_simp
  with_reducible rfl
 rotate_left
 ·simp only [Act.put, List.setIfInBounds_toArray, List.set_cons_zero, List.set_cons_succ, i64_w, i32_w]
  rfl
 refine take_ (i := 8) (N := some 13) (v := ?_) (a' := ?_) #[true, true, true, true, false, true, true, true, true, false, false, false, false] rfl rfl (take_ofW HT_.out HW_.out (by kernel_rfl)) (fun _ _ _ h => h) (Or.inl ⟨by rfl, ?_⟩) hHeld ?_ ?_
 rotate_left
 ·rintro w' ⟨s0, s1, s2, s3, s4, s5⟩
  go_simp
  with_reducible rfl
 rotate_left
 ·simp only [Act.put, List.setIfInBounds_toArray, List.set_cons_zero, List.set_cons_succ, i64_w, i32_w]
  rfl
 refine one_ (i := 4) (N := some 9) #[true, true, true, true, true, true, true, true, true, false, false, false, false] rfl rfl (one_of HT_.out (by kernel_rfl)) (by decide) (fun K hK => ?_)
 refine goes_ Try.func43 (by kernel_rfl) rfl #[.int .i64 a0_0, .int .i64 a1_0] (by rfl) rfl rfl (by (try simp only [List.map_toArray, List.map_cons, List.map_nil]); first | done | rfl | (simp only [List.length_drop, List.length_take]; rfl)) ?_
 with_reducible refine (cmp_Compare_int64.calls a0_0 a1_0 t106 _ A3.out).mono ?_
 rintro e w' ⟨rfl, ⟨nd, rfl⟩⟩
 refine ⟨_, rfl, ?_⟩
 refine hK.out _ _ ⟨(blk_cell BK104.out 0).trans rfl, (blk_cell BK104.out 1).trans rfl, (blk_cell BK104.out 2).trans rfl, (blk_cell BK105.out 0).trans rfl, (blk_cell BK105.out 1).trans rfl, (blk_cell BK105.out 2).trans rfl⟩ (fun hHeld => ?_)
 clear hK K
 refine norm_ (a' := ?_) ?_ ?_
 rotate_left
 ·show Act.put _ (some 9) _ = _
  simp only [Act.put, List.setIfInBounds_toArray, List.set_cons_zero, List.set_cons_succ, i64_w, i32_w]
  rfl
 refine one_ (i := 9) (N := some 14) #[true, true, true, true, true, true, true, true, true, true, false, false, false] rfl rfl (one_of HT_.out (by kernel_rfl)) (by decide) (fun K hK => ?_)
 refine goes_ Try.func43 (by kernel_rfl) rfl #[.int .i64 a0_1, .int .i64 a1_1] (by rfl) rfl rfl (by (try simp only [List.map_toArray, List.map_cons, List.map_nil]); first | done | rfl | (simp only [List.length_drop, List.length_take]; rfl)) ?_
 with_reducible refine (cmp_Compare_int64.calls a0_1 a1_1 t107 _ A4.out).mono ?_
 rintro e w' ⟨rfl, ⟨nd, rfl⟩⟩
 refine ⟨_, rfl, ?_⟩
 refine hK.out _ _ ⟨(blk_cell BK104.out 0).trans rfl, (blk_cell BK104.out 1).trans rfl, (blk_cell BK104.out 2).trans rfl, (blk_cell BK105.out 0).trans rfl, (blk_cell BK105.out 1).trans rfl, (blk_cell BK105.out 2).trans rfl⟩ (fun hHeld => ?_)
 clear hK K
 refine norm_ (a' := ?_) ?_ ?_
 rotate_left
 ·show Act.put _ (some 14) _ = _
  simp only [Act.put, List.setIfInBounds_toArray, List.set_cons_zero, List.set_cons_succ, i64_w, i32_w]
  rfl
 refine one_ (i := 10) (N := some 15) #[true, true, true, true, true, true, true, true, true, true, true, false, false] rfl rfl (one_of HT_.out (by kernel_rfl)) (by decide) (fun K hK => ?_)
 refine lit_ev (Kd.int .i64) _ 3 ?hg (N := 15) ?hd (xs := ([t106, t107] : List Int)) (inner := [.int .i64 t106, .int .i64 t107]) (ok := fun _ => True) (okp := fun _ => True) ?hr ?hp (fun _ hk => hk) trivial (Below.refl _ _) (Nat.le_refl _) (by simp) ?_; (case hd => rfl); (case hg => rfl); (case hr => first | (go_simp; done) | (go_simp; rfl)); (case hp => exact (Reps.one (show Kd.M (Kd.int .i64) _ _ _ t106 [.int .i64 t106] from rfl) (Reps.one (show Kd.M (Kd.int .i64) _ _ _ t107 [.int .i64 t107] from rfl) (Reps.none _ _))))
 intro v109 w9 ho10 hb hg_ hnew_ hdw9
 clear hg_ hnew_
 (first | rw [← Ny108.out] at ho10 | (simp only [Int.reduceToNat] at ho10; rw [← Ny108.out] at ho10))
 have n0_ := Aside0.mk (Kd.R_lower ho10 (below_size (by repeat (first | (with_reducible first | exact HB.out | apply below_alloc | apply pw_below_drewN | apply below_drew1 | refine below_set ?_ GE104.out | refine below_set ?_ GE105.out) | exact HB.out))))
 have n1_ := bb BK104 hb
 have n2_ := bb BK105 hb
 have n3_ := Aside0.mk (below_step (by repeat (first | (with_reducible first | exact HB.out | apply below_alloc | apply pw_below_drewN | apply below_drew1 | refine below_set ?_ GE104.out | refine below_set ?_ GE105.out) | exact HB.out)) hb)
 clear BK104
 clear BK105
 clear HB
 have HO110 := n0_
 have BK104 := n1_
 have BK105 := n2_
 have HB := n3_
 clear n0_ n1_ n2_ n3_
 clear hb ho10
 obtain ⟨Ao11, co11, eo11⟩ := Kd.R_slice HO110.out
 (first | subst eo11 | (injection eo11 with f1_ f2_ f3_; have f4_ := f1_.symm; have f5_ := f3_.symm; clear f1_ f2_ f3_; subst f4_; subst f5_))
 refine hK.out _ _ ⟨(blk_cell BK104.out 0).trans rfl, (blk_cell BK104.out 1).trans rfl, (blk_cell BK104.out 2).trans rfl, (blk_cell BK105.out 0).trans rfl, (blk_cell BK105.out 1).trans rfl, (blk_cell BK105.out 2).trans rfl⟩ (fun hHeld => ?_)
 clear hK K
 refine norm_ (a' := ?_) ?_ ?_
 rotate_left
 ·show Act.put _ (some 15) _ = _
  simp only [Act.put, List.setIfInBounds_toArray, List.set_cons_zero, List.set_cons_succ, i64_w, i32_w]
  rfl
 refine one_ (i := 11) (N := some 16) #[true, true, true, true, true, true, true, true, true, true, true, true, false] rfl rfl (one_of HT_.out (by kernel_rfl)) (by decide) (fun K hK => ?_)
 refine goes_ Try.func42 (by kernel_rfl) rfl #[.slice Ao11 y108.length co11] (by rfl) rfl rfl (by (try simp only [List.map_toArray, List.map_cons, List.map_nil]); first | done | rfl | (simp only [List.length_drop, List.length_take]; rfl)) ?_
 with_reducible refine (cmp_Or_int.calls k _ _ y108 t111 _ ?side1 ?side2 A5.out).mono ?_
 (case side1 => repeat (first | exact (Kd.R_reads' HO110.out).2.2 | (with_reducible refine Kd.C_alloc ?_ _) | (with_reducible refine Kd.C_drewN ?_ _) | (with_reducible refine Kd.C_drew ?_)))
 (case side2 => exact (Kd.R_reads' HO110.out).2.1)
 rintro e w' ⟨rfl, ⟨nd, rfl⟩⟩
 refine ⟨_, rfl, ?_⟩
 refine hK.out _ _ ⟨(blk_cell BK104.out 0).trans rfl, (blk_cell BK104.out 1).trans rfl, (blk_cell BK104.out 2).trans rfl, (blk_cell BK105.out 0).trans rfl, (blk_cell BK105.out 1).trans rfl, (blk_cell BK105.out 2).trans rfl⟩ (fun hHeld => ?_)
 clear hK K
 refine norm_ (a' := ?_) ?_ ?_
 rotate_left
 ·show Act.put _ (some 16) _ = _
  simp only [Act.put, List.setIfInBounds_toArray, List.set_cons_zero, List.set_cons_succ, i64_w, i32_w]
  rfl
 refine pu 12 (some 4) #[true, true, true, true, true, true, true, true, true, true, true, true, true] HT_ ?_
 refine done_ (done_of HT_.out (by kernel_rfl)) ?_
 try go_wp2
 go_ret
 exact ⟨by first | rfl | (simp [errW_none, errW_some] <;> rfl) | (simp [*, errW_none, errW_some] <;> rfl), grown_of (by repeat (first | (with_reducible first | exact HB.out | apply below_alloc | apply pw_below_drewN | apply below_drew1 | refine below_set ?_ GE104.out | refine below_set ?_ GE105.out) | exact HB.out)) (Nat.le_trans hdw6 (Nat.le_trans hdw7 (Nat.le_trans hdw8 (Nat.le_trans (Nat.le_add_right _ _) (Nat.le_trans (Nat.le_add_right _ _) (Nat.le_trans hdw9 (Nat.le_add_right _ _)))))))⟩
/-! ### slices.SortFunc at lattices: what the closure says, and the row behind the sort -/
instance : Inhabited S27 := ⟨z27⟩
def encL (x : S27) : List Value := [.int .i64 x.f0, .int .i64 x.f1, .int .i64 x.f2]
def cfL (x y : S27) : Int := if x.f0 < y.f0 then -1 else if x.f0 > y.f0 then 1 else if x.f1 < y.f1 then -1 else if x.f1 > y.f1 then 1 else 0
theorem less_f (x y : S27) : impl_LatticesLess.f 5 x.f0 x.f1 x.f2 y.f0 y.f1 y.f2 = some (cfL x y) := by
 have hc : ∀ a b : Int, cmp_Compare_int64.f a b = some (if a < b then -1 else if a > b then 1 else 0) := by
  intro a b
  simp only [cmp_Compare_int64.f, cmp_isNaN_int64.f, bne_self_eq_false, Option.bind_some, if_neg Bool.false_ne_true]
  split
  ·rfl
  ·split <;> rfl
 have hw1 : wrap64 (0 + 1) = 1 := by unfold wrap64; omega
 have hw2 : wrap64 (1 + 1) = 2 := by unfold wrap64; omega
 have ho : ∀ a b : Int, cmp_Or_int.f 5 [a, b] = some (if a = 0 then b else a) := by
  intro a b
  have r0 : rd [a, b] 0 = a := rfl
  have r1 : rd [a, b] 1 = b := rfl
  unfold cmp_Or_int.f
  rw [cmp_Or_int.l0, if_pos (by simp), if_pos (by omega), if_pos (by simp), r0]
  by_cases ha : a = 0
  ·rw [if_pos ha, if_pos ha, hw1, cmp_Or_int.l0, if_pos (by simp), if_pos (by omega), if_pos (by simp), r1]
   by_cases hb : b = 0
   ·rw [if_pos hb, hw2, cmp_Or_int.l0, if_neg (by simp), hb]
   ·rw [if_neg hb]
  ·rw [if_neg ha, if_neg ha]
 unfold impl_LatticesLess.f
 rw [hc, Option.bind_some, hc, Option.bind_some, ho, Option.bind_some]
 unfold cfL
 congr 1
 repeat' split
 all_goals first | rfl | omega
theorem lt_cfL (x y : S27) : Go.Proofs.ltOf cfL x y = true ↔ x.f0 < y.f0 ∨ (x.f0 = y.f0 ∧ x.f1 < y.f1) := by
 unfold Go.Proofs.ltOf cfL
 rw [decide_eq_true_iff]
 repeat' split
 all_goals omega
theorem nlt_cfL (x y : S27) : Go.Proofs.ltOf cfL x y = false ↔ y.f0 < x.f0 ∨ (x.f0 = y.f0 ∧ y.f1 ≤ x.f1) := by
 rw [← Bool.not_eq_true, lt_cfL]; omega
theorem swo_cfL : Go.Sort.SWO (Go.Proofs.ltOf cfL) where
 irrefl x := by rw [nlt_cfL]; omega
 trans x y z h1 h2 := by rw [lt_cfL] at *; omega
 ntrans x y z h1 h2 := by rw [nlt_cfL] at *; omega
/-- The row behind the sort. -/
def srt (l : List S27) : List S27 := (Go.Sort.pdq (Go.Proofs.ltOf cfL) l.toArray 0 l.toArray.size (Go.Lib.bitLen l.toArray.size) true true).toList
theorem srt_facts (l : List S27) : (srt l).Perm l ∧ (srt l).Pairwise (fun a b => Go.Proofs.ltOf cfL b a = false) := by
 obtain ⟨⟨h1, _, h3⟩, h2⟩ := Go.Sort.pdq_sorts (Go.Proofs.ltOf cfL) swo_cfL l.toArray 0 l.toArray.size (Go.Lib.bitLen l.toArray.size) true true (Nat.zero_le _) (Nat.le_refl _) (Or.inl rfl)
 unfold srt
 generalize Go.Sort.pdq (Go.Proofs.ltOf cfL) l.toArray 0 l.toArray.size (Go.Lib.bitLen l.toArray.size) true true = d at *
 have e1 : d.extract 0 l.toArray.size = d := by rw [← h1]; exact Array.extract_size
 rw [e1, Array.extract_size] at h3
 refine ⟨h3, ?_⟩
 rw [List.pairwise_iff_getElem]
 intro i j hi hj hij
 have hi' : i < d.size := by simpa using hi
 have hj' : j < d.size := by simpa using hj
 have := h2 i j (Nat.zero_le _) hij (by rw [← h1]; exact hj')
 rw [getElem!_pos d i hi', getElem!_pos d j hj'] at this
 simpa using this
theorem srt_length (l : List S27) : (srt l).length = l.length := (srt_facts l).1.length_eq
theorem take3 {l : List Value} {i : Nat} {a b c : Value} (ha : l[i]? = some a) (hb : l[i + 1]? = some b) (hc : l[i + 2]? = some c) : (l.drop i).take 3 = [a, b, c] := by
 refine List.ext_getElem? fun j => ?_
 rw [List.getElem?_take]
 by_cases h : j < 3
 ·rw [if_pos h, List.getElem?_drop]
  rcases (by omega : j = 0 ∨ j = 1 ∨ j = 2) with rfl | rfl | rfl
  ·exact ha
  ·exact hb
  ·exact hc
 ·rw [if_neg h]
  exact (List.getElem?_eq_none (by simp; omega)).symm
theorem of_take3 {l : List Value} {i : Nat} {a b c : Value} (h : (l.drop i).take 3 = [a, b, c]) : l[i]? = some a ∧ l[i + 1]? = some b ∧ l[i + 2]? = some c := by
 have e : ∀ j, j < 3 → l[i + j]? = ([a, b, c] : List Value)[j]? := by
  intro j hj
  rw [← h, List.getElem?_take, if_pos hj, List.getElem?_drop]
 exact ⟨e 0 (by omega), e 1 (by omega), e 2 (by omega)⟩
theorem flat_at (l : List S27) (j : Nat) (p : S27) (h : l[j]? = some p) (c : Nat) (hc : c < 3) : (Go.Sort.flatK encL 3 l.toArray)[j * 3 + c]! = (encL p)[c]! := by
 obtain ⟨hj, e⟩ := List.getElem?_eq_some_iff.1 h
 have hs : l.toArray.size = l.length := rfl
 rw [Go.Sort.get_flatK _ _ _ _ (by rw [hs]; omega), show (j * 3 + c) / 3 = j by omega, show (j * 3 + c) % 3 = c by omega, getElem!_pos l.toArray j (by rw [hs]; exact hj)]
 have : l.toArray[j]'(by rw [hs]; exact hj) = p := by simpa using e
 rw [this]
theorem holds_of_row {w : World} {g : Nat} {cur : Array Value} {l : List S27} {inner : List Value} {base : Nat} {ok : Nat → Prop} (hh : w.heap[g]? = some (.cells cur 27 (0, 0)))
  (htk : cur.toList.take (l.length * 3) = inner) (hrep : Reps (k27.M w base ok) 3 l inner) : Go.Sort.HoldsK encL 3 w g 0 l.toArray := by
 intro t ht
 have ht' : t < l.length * 3 := by rw [Go.Sort.size_flatK] at ht; exact ht
 have hj : t / 3 < l.length := by omega
 have hp := k27_openM (hrep.2 (t / 3) l[t / 3] (List.getElem?_eq_getElem hj))
 have h3 := of_take3 hp
 have hi : ∀ c, c < 3 → inner[t / 3 * 3 + c]? = some (encL l[t / 3])[c]! := by
  intro c hc
  rcases (by omega : c = 0 ∨ c = 1 ∨ c = 2) with rfl | rfl | rfl
  ·exact h3.1
  ·exact h3.2.1
  ·exact h3.2.2
 have ft := flat_at l (t / 3) l[t / 3] (List.getElem?_eq_getElem hj) (t % 3) (by omega)
 have hi' := hi (t % 3) (by omega)
 rw [show t / 3 * 3 + t % 3 = t by omega] at ft hi'
 have hcell : w.cell? ⟨g, 0 + t, none⟩ = some (id (Go.Sort.flatK encL 3 l.toArray)[t]!) := by
  rw [Nat.zero_add, blk_cell hh t, ft]
  have : inner[t]? = cur[t]? := by rw [← htk, List.getElem?_take, if_pos ht', Array.getElem?_toList]
  rw [← this, hi']
  rfl
 exact ⟨hcell, blk_frozen hh (0 + t)⟩
theorem block_sorted {w : World} {g n : Nat} {cur : Array Value} {d : Array S27} {os : Array Obj} (hh : w.heap[g]? = some (.cells cur 27 (0, 0))) :
  ∃ cur', (Go.Proofs.sortWorldK encL 3 w g 0 n d os).heap[g]? = some (.cells cur' 27 (0, 0)) ∧ cur'.size = cur.size := by
 have hlt : g < w.heap.size := by
  rcases Nat.lt_or_ge g w.heap.size with h | h
  ·exact h
  ·rw [Array.getElem?_eq_none h] at hh; exact absurd hh (by simp)
 refine ⟨Go.Sort.putCells id 0 (Go.Sort.flatK encL 3 d) cur, ?_, ?_⟩
 ·unfold Go.Proofs.sortWorldK Go.Sort.putRowK Go.Sort.putRow Go.Sort.grow Go.Sort.mapBlock Go.Sort.ahead
  dsimp only
  rw [Array.getElem?_append_left (by simpa using hlt), Array.getElem?_modify, if_pos rfl, hh]
  rfl
 ·simp [Go.Sort.putCells]
theorem far_sorted {w : World} {g n : Nat} {d : Array S27} {os : Array Obj} {k : Nat} (hk : k < w.heap.size) (hn : k ≠ g) : (Go.Proofs.sortWorldK encL 3 w g 0 n d os).heap[k]? = w.heap[k]? := by
 unfold Go.Proofs.sortWorldK Go.Sort.putRowK Go.Sort.putRow Go.Sort.grow Go.Sort.mapBlock Go.Sort.ahead
 dsimp only
 rw [Array.getElem?_append_left (by simpa using hk), Array.getElem?_modify, if_neg (fun h => hn h.symm)]
theorem size_sorted {w : World} {g n : Nat} {d : Array S27} {os : Array Obj} : w.heap.size ≤ (Go.Proofs.sortWorldK encL 3 w g 0 n d os).heap.size := by
 unfold Go.Proofs.sortWorldK Go.Sort.putRowK Go.Sort.putRow Go.Sort.grow Go.Sort.mapBlock Go.Sort.ahead
 dsimp only
 rw [Array.size_append, Array.size_modify]
 exact Nat.le_add_right _ _
theorem row_sorted {w W : World} {g base : Nat} {cur : Array Value} {l : List S27} {ok : Nat → Prop} (hh : W.heap[g]? = some (.cells cur 27 (0, 0))) (hs : l.length * 3 ≤ cur.size)
  (hH : Go.Sort.HoldsK encL 3 W g 0 l.toArray) : (cur.toList.take (l.length * 3)).length = l.length * 3 ∧ Reps (k27.M W base ok) 3 l (cur.toList.take (l.length * 3)) := by
 have hl : (cur.toList.take (l.length * 3)).length = l.length * 3 := by rw [List.length_take, show cur.toList.length = cur.size from rfl]; omega
 refine ⟨hl, hl, ?_⟩
 intro j p hp
 have hj : j < l.length := (List.getElem?_eq_some_iff.1 hp).1
 have hc : ∀ c, c < 3 → (cur.toList.take (l.length * 3))[j * 3 + c]? = some (encL p)[c]! := by
  intro c hc
  have h := (hH (j * 3 + c) (by rw [Go.Sort.size_flatK]; show j * 3 + c < l.length * 3; omega)).1
  rw [Nat.zero_add, blk_cell hh, flat_at l j p hp c hc] at h
  rw [List.getElem?_take, if_pos (by omega), Array.getElem?_toList]
  exact h
 rw [take3 (i := j * 3) (hc 0 (by omega)) (hc 1 (by omega)) (hc 2 (by omega))]
 exact k27_mkM W base ok p
def sortRen : Go.Shelf.Ren := { f := (fun x => match x with | 6 => 40 | 15 => 74 | 14 => 73 | 28 => 96 | 29 => 97 | 20 => 88 | 21 => 89 | 22 => 90 | 23 => 91 | 24 => 92 | 25 => 93 | 26 => 94 | 27 => 95 | 46 => 99 | 47 => 100 | 48 => 101 | 49 => 102 | 50 => 103 | 57 => 104 | n => n), t := (fun x => match x with | 22 => 24 | 24 => 27 | 25 => 69 | 3 => 3 | 39 => 98 | 0 => 0 | 53 => 121 | 55 => 92 | 4 => 4 | 46 => 114 | 45 => 113 | 50 => 118 | 5 => 5 | 9 => 9 | 66 => 122 | 70 => 126 | 76 => 128 | 77 => 129 | n => n), g := (fun n => n) }
set_option maxRecDepth 100000 in
theorem sortK : Go.Proofs.SlLaysF0.n6 Try.prog sortRen where
 mixed := by kernel_rfl
 f6 := ⟨"slices.SortFunc[[]loop.example/g01252/impl.Lattice,loop.example/g01252/impl.Lattice]", of_decide_eq_true (by kernel_rfl), Try.func40.trans (congrArg some (by kernel_rfl))⟩
 f14 := ⟨"slices.pdqsortCmpFunc[loop.example/g01252/impl.Lattice]", of_decide_eq_true (by kernel_rfl), Try.func73.trans (congrArg some (by kernel_rfl))⟩
 f15 := Try.func74.trans (congrArg some (by kernel_rfl))
 f20 := ⟨"slices.insertionSortCmpFunc[loop.example/g01252/impl.Lattice]", of_decide_eq_true (by kernel_rfl), Try.func88.trans (congrArg some (by kernel_rfl))⟩
 f21 := ⟨"slices.heapSortCmpFunc[loop.example/g01252/impl.Lattice]", of_decide_eq_true (by kernel_rfl), Try.func89.trans (congrArg some (by kernel_rfl))⟩
 f22 := ⟨"slices.breakPatternsCmpFunc[loop.example/g01252/impl.Lattice]", of_decide_eq_true (by kernel_rfl), Try.func90.trans (congrArg some (by kernel_rfl))⟩
 f23 := ⟨"slices.choosePivotCmpFunc[loop.example/g01252/impl.Lattice]", of_decide_eq_true (by kernel_rfl), Try.func91.trans (congrArg some (by kernel_rfl))⟩
 f24 := ⟨"slices.reverseRangeCmpFunc[loop.example/g01252/impl.Lattice]", of_decide_eq_true (by kernel_rfl), Try.func92.trans (congrArg some (by kernel_rfl))⟩
 f25 := ⟨"slices.partialInsertionSortCmpFunc[loop.example/g01252/impl.Lattice]", of_decide_eq_true (by kernel_rfl), Try.func93.trans (congrArg some (by kernel_rfl))⟩
 f26 := ⟨"slices.partitionEqualCmpFunc[loop.example/g01252/impl.Lattice]", of_decide_eq_true (by kernel_rfl), Try.func94.trans (congrArg some (by kernel_rfl))⟩
 f27 := ⟨"slices.partitionCmpFunc[loop.example/g01252/impl.Lattice]", of_decide_eq_true (by kernel_rfl), Try.func95.trans (congrArg some (by kernel_rfl))⟩
 f28 := Try.func96.trans (congrArg some (by kernel_rfl))
 f29 := Try.func97.trans (congrArg some (by kernel_rfl))
 f46 := ⟨"slices.siftDownCmpFunc[loop.example/g01252/impl.Lattice]", of_decide_eq_true (by kernel_rfl), Try.func99.trans (congrArg some (by kernel_rfl))⟩
 f47 := Try.func100.trans (congrArg some (by kernel_rfl))
 f48 := Try.func101.trans (congrArg some (by kernel_rfl))
 f49 := ⟨"slices.medianAdjacentCmpFunc[loop.example/g01252/impl.Lattice]", of_decide_eq_true (by kernel_rfl), Try.func102.trans (congrArg some (by kernel_rfl))⟩
 f50 := ⟨"slices.medianCmpFunc[loop.example/g01252/impl.Lattice]", of_decide_eq_true (by kernel_rfl), Try.func103.trans (congrArg some (by kernel_rfl))⟩
 f57 := ⟨"slices.order2CmpFunc[loop.example/g01252/impl.Lattice]", of_decide_eq_true (by kernel_rfl), Try.func104.trans (congrArg some (by kernel_rfl))⟩
 t0 := Try.underlying0
 a0 := Try.isAgg0
 z0 := Try.sizeOf0
 v0 := Try.zeroValue0
 t3 := Try.underlying3
 a3 := Try.isAgg3
 z3 := Try.sizeOf3
 v3 := Try.zeroValue3
 t4 := Try.underlying4
 a4 := Try.isAgg4
 z4 := Try.sizeOf4
 v4 := Try.zeroValue4
 t5 := Try.underlying5
 a5 := Try.isAgg5
 z5 := Try.sizeOf5
 v5 := Try.zeroValue5
 t9 := Try.underlying9
 a9 := Try.isAgg9
 z9 := Try.sizeOf9
 v9 := Try.zeroValue9
 t22 := Try.underlying24
 a22 := Try.isAgg24
 z22 := Try.sizeOf24
 v22 := Try.zeroValue24
 t25 := Try.underlying69
 a25 := Try.isAgg69
 z25 := Try.sizeOf69
 v25 := Try.zeroValue69
 t39 := Try.underlying98
 a39 := Try.isAgg98
 z39 := Try.sizeOf98
 v39 := Try.zeroValue98
 t45 := Try.underlying113
 a45 := Try.isAgg113
 z45 := Try.sizeOf113
 v45 := Try.zeroValue113
 t46 := Try.underlying114
 a46 := Try.isAgg114
 z46 := Try.sizeOf114
 v46 := Try.zeroValue114
 t50 := Try.underlying118
 a50 := Try.isAgg118
 z50 := Try.sizeOf118
 v50 := Try.zeroValue118
 t53 := Try.underlying121
 a53 := Try.isAgg121
 z53 := Try.sizeOf121
 v53 := Try.zeroValue121
 t55 := Try.underlying92
 a55 := Try.isAgg92
 z55 := Try.sizeOf92
 v55 := Try.zeroValue92
 t66 := Try.underlying122
 a66 := Try.isAgg122
 z66 := Try.sizeOf122
 v66 := Try.zeroValue122
 t70 := Try.underlying126
 a70 := Try.isAgg126
 z70 := Try.sizeOf126
 v70 := Try.zeroValue126
 t76 := Try.underlying128
 a76 := Try.isAgg128
 z76 := Try.sizeOf128
 v76 := Try.zeroValue128
 t77 := Try.underlying129
 a77 := Try.isAgg129
 z77 := Try.sizeOf129
 v77 := Try.zeroValue129
def impl_Lattice_40.f (k : Nat) (l0 : List (S27)) (a1 : Int) : Option (Int × (List (S27))) := if l0.length ≤ 1000000 then some (0, srt l0) else none
theorem impl_Lattice_40.mono : ∀ a0 a1 k, LeO (impl_Lattice_40.f k a0 a1) (impl_Lattice_40.f (k + 1) a0 a1) := fun _ _ _ => LeO.refl _
theorem less_lays (blk off size : Nat) (w : World) : Go.Proofs.CmpLays Try.prog 41 #[] encL 3 cfL blk off size w :=
 fun _ _ _ _ x y => impl_LatticesLess.calls 5 _ _ _ _ _ _ _ _ (less_f x y)
set_option maxHeartbeats 2000000 in
theorem impl_Lattice_40.calls (k : Nat) (P0_ : Nat → Prop) (u9000_ : Value) (l0 : List (S27)) (a1 : Int) (r1 : Int) (r2 : List (S27)) (w0 w : World) (hB : Below w0.heap.size w0 w) (ho0 : Kd.R k27 27 w w0.heap.size P0_ u9000_ l0) (h : impl_Lattice_40.f k l0 a1 = some (r1, r2)) :
  Calls Try.prog 40 #[u9000_, .func (.func 41) #[] #[]] w fun e w' => e = .returned (.tuple #[]) ∧ Kd.R k27 27 w' w0.heap.size (fun k_ => (P0_ k_ ∨ w.heap.size ≤ k_)) u9000_ r2 ∧ Below w0.heap.size w0 w' ∧ Kept w w' (fun k_ => P0_ k_) := by
 unfold impl_Lattice_40.f at h
 have hbig : l0.length ≤ 1000000 := by
  by_cases q : l0.length ≤ 1000000
  ·exact q
  ·rw [if_neg q] at h; exact absurd h (by simp)
 rw [if_pos hbig] at h
 obtain ⟨rfl, rfl⟩ : 0 = r1 ∧ srt l0 = r2 := by simpa using h
 obtain ⟨h0, inner, ⟨hlen, hcase⟩, hrep⟩ := ho0
 rcases hcase with ⟨rfl, hn⟩ | ⟨g, cap, cur, rfl, hg, hh, hnc, hcm, hcs, htk⟩
 ·obtain rfl : l0 = [] := List.length_eq_zero_iff.1 hn
  have hs : srt [] = [] := List.length_eq_zero_iff.1 (srt_length [])
  have H := Go.Proofs.AnyF.slices_SortFunc_none sortK none 0 (.func (.func 41) #[] #[]) w
  change Calls Try.prog 40 _ _ _ at H
  refine H.mono ?_
  rintro e w' ⟨rfl, rfl⟩
  rw [hs]
  exact ⟨rfl, Kd.R_nil _ _ _ _ _, hB, Kept.refl _ _⟩
 ·have hlt : g < w.heap.size := by
   rcases Nat.lt_or_ge g w.heap.size with q | q
   ·exact q
   ·rw [Array.getElem?_eq_none q] at hh; exact absurd hh (by simp)
  have eg : ∀ args w, (callFunc 41 args).run Try.prog w = .ok (.enter 41 args) w := enters_of Try.func41 (by kernel_rfl) rfl
  have hsz : l0.toArray.size < 4611686018427387904 := by
   show l0.length < _
   exact Nat.lt_of_le_of_lt hbig (by decide)
  have hH := holds_of_row hh htk hrep
  have H := Go.Proofs.AnyQ.slices_SortFunc_eq sortK 3 Try.isAgg27 Try.sizeOf27 encL (fun _ => rfl) (fun x v hv => by simp [encL] at hv; rcases hv with rfl | rfl | rfl <;> rfl) cfL swo_cfL 41 #[] g 0 cap l0.toArray w eg (less_lays g 0 _ w) hH hlt hsz
  change Calls Try.prog 40 _ _ _ at H
  refine H.mono ?_
  rintro e w' ⟨rfl, n, os, rfl⟩
  have hsr : Go.Sort.pdq (Go.Proofs.ltOf cfL) l0.toArray 0 l0.toArray.size (Go.Lib.bitLen l0.toArray.size) true true = (srt l0).toArray := rfl
  rw [hsr]
  have hlen' := srt_length l0
  have hH' := Go.Proofs.holdsK_sortWorldK encL 3 w g 0 n l0.toArray (srt l0).toArray os hlt hH hlen'
  obtain ⟨cur', hb', hc'⟩ := block_sorted (n := n) (d := (srt l0).toArray) (os := os) hh
  have hfit : (srt l0).length * 3 ≤ cur'.size := by rw [hlen', hc', hcs]; exact Nat.mul_le_mul_right 3 hnc
  have hrow := row_sorted (w := w) (base := w0.heap.size) (ok := fun k => (P0_ k ∨ w.heap.size ≤ k) ∧ some k ≠ (Value.slice (some ⟨g, 0, none⟩) l0.length cap).ownBlock) hb' hfit hH'
  have hP : P0_ g := h0 g rfl
  refine ⟨rfl, ⟨fun k hk => .inl (h0 k hk), cur'.toList.take ((srt l0).length * 3), ⟨hrow.1, .inr ⟨g, cap, cur', by rw [hlen'], hg, hb', by rw [hlen']; exact hnc, hcm, by rw [hc']; exact hcs, rfl⟩⟩, hrow.2⟩, ?_, ?_⟩
  ·refine ⟨hB.os, hB.tape, hB.output, Nat.le_trans hB.size size_sorted, fun k hk => ?_⟩
   rw [far_sorted (Nat.lt_of_lt_of_le hk hB.size) (by omega)]
   exact hB.block k hk
  ·refine ⟨size_sorted, fun i hi hn => far_sorted hi (fun e => hn (e ▸ hP))⟩

/-! ### impl_LatticesInside: function 7 -/
mutual
def impl_LatticesInside.j0 : Nat → Int → Int → Bool → Int → Int → Int → Option ((List (S27)) × Int)
 | 0, _, _, _, _, _, _ => none
 | k + 1, x0, x2, x18, x211000, x211001, x211002 => if x18 = true then (some (([] : List (S27)), 2)) else ((impl_power.f k x0 (wrap64 (x2 + 1))).bind fun t212 => (if (wrap64 (x0 - 1)) = 0 then (none) else (if (wrap64 (Int.tdiv (wrap64 (t212 - 1)) (wrap64 (x0 - 1)))) > 100 then (some (([] : List (S27)), 3)) else (if (wrap64 (x211000 + x2)) > 12 then (some (([] : List (S27)), 3)) else (if (wrap64 (x211002 + x2)) > 12 then (some (([] : List (S27)), 3)) else (impl_LatticesInside.l0 k x0 x2 (([] : List (S27))) (wrap64 (x2 + 1)) 0 x211000 x211001 x211002))))))
def impl_LatticesInside.l0 : Nat → Int → Int → List (S27) → Int → Int → Int → Int → Int → Option ((List (S27)) × Int)
 | 0, _, _, _, _, _, _, _, _ => none
 | k + 1, x0, x2, x8, x50, x51, x211000, x211001, x211002 => if x51 < x50 then ((impl_power.f k x0 (wrap64 (x211000 + x51))).bind fun t218 => ((impl_power.f k x0 x51).bind fun t219 => (impl_LatticesInside.l1 k x0 x2 x8 x51 t218 x50 x51 t219 0 x211000 x211001 x211002))) else ((impl_Lattice_40.f k x8 0).bind fun bt216 => (some (bt216.2, 0)))
def impl_LatticesInside.l1 : Nat → Int → Int → List (S27) → Int → Int → Int → Int → Int → Int → Int → Int → Int → Option ((List (S27)) × Int)
 | 0, _, _, _, _, _, _, _, _, _, _, _, _ => none
 | k + 1, x0, x2, x8, x9, x10, x50, x51, x62, x63, x211000, x211001, x211002 => if x63 < x62 then ((impl_power.f k x0 x211000).bind fun t220 => ((impl_power.f k x0 (wrap64 (x2 - x9))).bind fun t221 => ((impl_times.f k x211001 t221 x10).bind fun t222 => ((impl_mod.f (wrap64 ((wrap64 (t220 * x63)) + t222)) x10).bind fun t223 => (if x8.length < 5864062014805 then (impl_LatticesInside.l1 k x0 x2 (x8 ++ [(⟨wrap64 (x211000 + x9), t223, wrap64 ((wrap64 (x211002 + x2)) - x9)⟩ : S27)]) x9 x10 x50 x51 x62 (wrap64 (x63 + 1)) x211000 x211001 x211002) else (none)))))) else (impl_LatticesInside.l0 k x0 x2 x8 x50 (wrap64 (x51 + 1)) x211000 x211001 x211002)
end
def impl_LatticesInside.f (k : Nat) (a0 : Int) (a1_0 : Int) (a1_1 : Int) (a1_2 : Int) (a2 : Int) : Option ((List (S27)) × Int) := (impl_IsLattice.f k a0 a1_0 a1_1 a1_2).bind fun t211 => (if t211 = true then (if a2 < 0 then (impl_LatticesInside.j0 k a0 a2 true a1_0 a1_1 a1_2) else (impl_LatticesInside.j0 k a0 a2 (decide (a2 > 4)) a1_0 a1_1 a1_2)) else (some (([] : List (S27)), 1)))
theorem impl_LatticesInside.mono_l : ∀ k, (∀ y0 y1 y2 y3 y4 y5, LeO (impl_LatticesInside.j0 k y0 y1 y2 y3 y4 y5) (impl_LatticesInside.j0 (k + 1) y0 y1 y2 y3 y4 y5)) ∧ (∀ y0 y1 y2 y3 y4 y5 y6 y7, LeO (impl_LatticesInside.l0 k y0 y1 y2 y3 y4 y5 y6 y7) (impl_LatticesInside.l0 (k + 1) y0 y1 y2 y3 y4 y5 y6 y7)) ∧ (∀ y0 y1 y2 y3 y4 y5 y6 y7 y8 y9 y10 y11, LeO (impl_LatticesInside.l1 k y0 y1 y2 y3 y4 y5 y6 y7 y8 y9 y10 y11) (impl_LatticesInside.l1 (k + 1) y0 y1 y2 y3 y4 y5 y6 y7 y8 y9 y10 y11))
 | 0 => ⟨fun _ _ _ _ _ _ r h => by simp [impl_LatticesInside.j0] at h, fun _ _ _ _ _ _ _ _ r h => by simp [impl_LatticesInside.l0] at h, fun _ _ _ _ _ _ _ _ _ _ _ _ r h => by simp [impl_LatticesInside.l1] at h⟩
 | k + 1 => by
  obtain ⟨ih0, ih1, ih2⟩ := impl_LatticesInside.mono_l k
  refine ⟨?_, ?_, ?_⟩
  ·intro y0 y1 y2 y3 y4 y5
   unfold impl_LatticesInside.j0
   repeat' first
   | (with_reducible exact ih0 _ _ _ _ _ _)
   | (with_reducible exact ih1 _ _ _ _ _ _ _ _)
   | (with_reducible exact ih2 _ _ _ _ _ _ _ _ _ _ _ _)
   | (with_reducible exact impl_IsLattice.mono _ _ _ _ _)
   | (with_reducible exact impl_Lattice_40.mono _ _ _)
   | (with_reducible exact impl_power.mono _ _ _)
   | (with_reducible exact impl_times.mono _ _ _ _)
   | (with_reducible exact LeO.refl _)
   | (with_reducible exact LeO.none _)
   | (with_reducible refine LeO.ite ?_ ?_)
   | (with_reducible refine LeO.bind ?_ (fun _ => ?_))
   | refine LeO.ite ?_ ?_
   | refine LeO.bind ?_ (fun _ => ?_)
  ·intro y0 y1 y2 y3 y4 y5 y6 y7
   unfold impl_LatticesInside.l0
   repeat' first
   | (with_reducible exact ih0 _ _ _ _ _ _)
   | (with_reducible exact ih1 _ _ _ _ _ _ _ _)
   | (with_reducible exact ih2 _ _ _ _ _ _ _ _ _ _ _ _)
   | (with_reducible exact impl_IsLattice.mono _ _ _ _ _)
   | (with_reducible exact impl_Lattice_40.mono _ _ _)
   | (with_reducible exact impl_power.mono _ _ _)
   | (with_reducible exact impl_times.mono _ _ _ _)
   | (with_reducible exact LeO.refl _)
   | (with_reducible exact LeO.none _)
   | (with_reducible refine LeO.ite ?_ ?_)
   | (with_reducible refine LeO.bind ?_ (fun _ => ?_))
   | refine LeO.ite ?_ ?_
   | refine LeO.bind ?_ (fun _ => ?_)
  ·intro y0 y1 y2 y3 y4 y5 y6 y7 y8 y9 y10 y11
   unfold impl_LatticesInside.l1
   repeat' first
   | (with_reducible exact ih0 _ _ _ _ _ _)
   | (with_reducible exact ih1 _ _ _ _ _ _ _ _)
   | (with_reducible exact ih2 _ _ _ _ _ _ _ _ _ _ _ _)
   | (with_reducible exact impl_IsLattice.mono _ _ _ _ _)
   | (with_reducible exact impl_Lattice_40.mono _ _ _)
   | (with_reducible exact impl_power.mono _ _ _)
   | (with_reducible exact impl_times.mono _ _ _ _)
   | (with_reducible exact LeO.refl _)
   | (with_reducible exact LeO.none _)
   | (with_reducible refine LeO.ite ?_ ?_)
   | (with_reducible refine LeO.bind ?_ (fun _ => ?_))
   | refine LeO.ite ?_ ?_
   | refine LeO.bind ?_ (fun _ => ?_)
theorem impl_LatticesInside.mono : ∀ a0 a1 a2 a3 a4 k, LeO (impl_LatticesInside.f k a0 a1 a2 a3 a4) (impl_LatticesInside.f (k + 1) a0 a1 a2 a3 a4) := by
 intro a0 a1 a2 a3 a4 k
 obtain ⟨ih0, ih1, ih2⟩ := impl_LatticesInside.mono_l k
 unfold impl_LatticesInside.f
 repeat' first
   | (with_reducible exact ih0 _ _ _ _ _ _)
   | (with_reducible exact ih1 _ _ _ _ _ _ _ _)
   | (with_reducible exact ih2 _ _ _ _ _ _ _ _ _ _ _ _)
   | (with_reducible exact impl_IsLattice.mono _ _ _ _ _)
   | (with_reducible exact impl_Lattice_40.mono _ _ _)
   | (with_reducible exact impl_power.mono _ _ _)
   | (with_reducible exact impl_times.mono _ _ _ _)
   | (with_reducible exact LeO.refl _)
   | (with_reducible exact LeO.none _)
   | (with_reducible refine LeO.ite ?_ ?_)
   | (with_reducible refine LeO.bind ?_ (fun _ => ?_))
   | refine LeO.ite ?_ ?_
   | refine LeO.bind ?_ (fun _ => ?_)
set_option maxHeartbeats 8000000 in
set_option maxRecDepth 100000 in
theorem impl_LatticesInside.calls (k : Nat) (a0 : Int) (a1_0 : Int) (a1_1 : Int) (a1_2 : Int) (a2 : Int) (r1 : List (S27)) (r2 : Int) (w : World) (h : impl_LatticesInside.f k a0 a1_0 a1_1 a1_2 a2 = some (r1, r2)) :
  Calls Try.prog 7 #[.int .i64 a0, .agg #[.int .i64 a1_0, .int .i64 a1_1, .int .i64 a1_2], .int .i64 a2] w fun e w' => ∃ v0_ : Value, e = .returned (.tuple #[v0_, .int .i64 r2]) ∧ Kd.R k27 27 w' w.heap.size (fun _ => True) v0_ r1 ∧ Below w.heap.size w w' := by
 have hu27 := Try.underlying27
 have HB := Aside0.mk (Below.refl w.heap.size w)
 have H : ((impl_IsLattice.f k a0 a1_0 a1_1 a1_2).bind fun t211 => (if t211 = true then (if a2 < 0 then (impl_LatticesInside.j0 k a0 a2 true a1_0 a1_1 a1_2) else (impl_LatticesInside.j0 k a0 a2 (decide (a2 > 4)) a1_0 a1_1 a1_2)) else (some (([] : List (S27)), 1)))) = some (r1, r2) := h
 clear h
 replace H := Option.bind_eq_some_iff.mp H
 obtain ⟨t211, A40, H⟩ := H
 replace H : (if t211 = true then (if a2 < 0 then (impl_LatticesInside.j0 k a0 a2 true a1_0 a1_1 a1_2) else (impl_LatticesInside.j0 k a0 a2 (decide (a2 > 4)) a1_0 a1_1 a1_2)) else (some (([] : List (S27)), 1))) = some (r1, r2) := H
 have A4 := Aside0.mk A40
 clear A40
 by_cases c5 : t211 = true
 ·subst c5
  have H1 : (if a2 < 0 then (impl_LatticesInside.j0 k a0 a2 true a1_0 a1_1 a1_2) else (impl_LatticesInside.j0 k a0 a2 (decide (a2 > 4)) a1_0 a1_1 a1_2)) = some (r1, r2) := by rw [if_pos rfl] at H; exact H
  clear H
  have H := H1
  clear H1
  have HC6 := Aside0.mk H
  clear H
  go_enter Try.func7, Try.ntmps7
  go_upto_region 3 with (first | ((with_reducible refine gate_dst (N := 4) rfl ?_); refine bx (N := 4) (cs := #[.int .i64 a1_0, .int .i64 a1_1, .int .i64 a1_2]) (t := 27) ?_; intro gb210 hg w7 hbox hb; have BK210 := Aside0.mk (hbox); have GW210 := sg hg; have GE210 := sg hg; replace HB := bs hb; clear hb hbox hg; obtain ⟨hcz8_0, hcz8_1, hcz8_2, hfz8_0, hfz8_1, hfz8_2⟩ := cq3 BK210) | (go_at_call 18; (with_reducible refine (impl_IsLattice.calls k a0 a1_0 a1_1 a1_2 true _ A4.out).mono ?_); rintro e w9 ⟨rfl, hb⟩; replace BK210 := bb BK210 hb; replace HB := bs hb; (try clear hb); (try clear hb2); (try clear hk); (try clear hi)))
  repeat (go_quiet (first | ((with_reducible refine gate_dst (N := 4) rfl ?_); refine bx (N := 4) (cs := #[.int .i64 a1_0, .int .i64 a1_1, .int .i64 a1_2]) (t := 27) ?_; intro gb210 hg w7 hbox hb; have BK210 := Aside0.mk (hbox); have GW210 := sg hg; have GE210 := sg hg; replace HB := bs hb; clear hb hbox hg; obtain ⟨hcz8_0, hcz8_1, hcz8_2, hfz8_0, hfz8_1, hfz8_2⟩ := cq3 BK210) | (go_at_call 18; (with_reducible refine (impl_IsLattice.calls k a0 a1_0 a1_1 a1_2 true _ A4.out).mono ?_); rintro e w9 ⟨rfl, hb⟩; replace BK210 := bb BK210 hb; replace HB := bs hb; (try clear hb); (try clear hb2); (try clear hk); (try clear hi))); go_upto_region 3 with (first | ((with_reducible refine gate_dst (N := 4) rfl ?_); refine bx (N := 4) (cs := #[.int .i64 a1_0, .int .i64 a1_1, .int .i64 a1_2]) (t := 27) ?_; intro gb210 hg w7 hbox hb; have BK210 := Aside0.mk (hbox); have GW210 := sg hg; have GE210 := sg hg; replace HB := bs hb; clear hb hbox hg; obtain ⟨hcz8_0, hcz8_1, hcz8_2, hfz8_0, hfz8_1, hfz8_2⟩ := cq3 BK210) | (go_at_call 18; (with_reducible refine (impl_IsLattice.calls k a0 a1_0 a1_1 a1_2 true _ A4.out).mono ?_); rintro e w9 ⟨rfl, hb⟩; replace BK210 := bb BK210 hb; replace HB := bs hb; (try clear hb); (try clear hb2); (try clear hk); (try clear hi))))
  (try simp only [Act.put, List.setIfInBounds_toArray, List.set_cons_zero, List.set_cons_succ])
  go_cut [18] (fun v18 wc => ∃ (kq : Nat) (x18_5 : Bool), v18 = .bool x18_5 ∧ Aside0 (impl_LatticesInside.j0 kq a0 a2 x18_5 a1_0 a1_1 a1_2 = some (r1, r2)) ∧ Aside0 (kq ≤ k) ∧ Aside0 (wc.heap[gb210]? = some (.cells #[.int .i64 a1_0, .int .i64 a1_1, .int .i64 a1_2] 27 (0, 0))) ∧ Aside0 (Below w.heap.size w wc))
  case first =>
   have H := HC6.out
   clear HC6
   by_cases c10 : a2 < 0
   ·rw [if_pos c10] at H
    have c10b0 : decide (a2 < 0) = true := decide_eq_true c10
    clear c10
    (first | rw [c10b0] | (simp only [i64_w, i32_w]; rw [c10b0]) | skip)
    have H' := Aside0.mk H
    clear H
    go_wp2
    repeat (go_quiet (fail); try go_wp2)
    go_meet
    case rel => exact ⟨_, (true), (by first | rfl | (simp; done) | (simp [*]; done)), H', ⟨by first | omega | exact Nat.le_refl _⟩, ⟨be BK210⟩, ⟨by repeat (first | (with_reducible first | exact HB.out | apply below_alloc | apply pw_below_drewN | apply below_drew1 | refine below_set ?_ GE210.out) | exact HB.out)⟩⟩
   ·rw [if_neg c10] at H
    have c10b0 : decide (a2 < 0) = false := decide_eq_false c10
    clear c10
    (first | rw [c10b0] | (simp only [i64_w, i32_w]; rw [c10b0]) | skip)
    have H' := Aside0.mk H
    clear H
    go_wp2
    repeat (go_quiet (fail); try go_wp2)
    go_meet
    case rel => exact ⟨_, (decide (a2 > 4)), (by first | rfl | (simp; done) | (simp [*]; done)), H', ⟨by first | omega | exact Nat.le_refl _⟩, ⟨be BK210⟩, ⟨by repeat (first | (with_reducible first | exact HB.out | apply below_alloc | apply pw_below_drewN | apply below_drew1 | refine below_set ?_ GE210.out) | exact HB.out)⟩⟩
  case rest =>
   clear HC6
   try clear c1
   try clear p2
   try clear c5
   try clear c7
   try clear c10
   try clear c10b0
   try clear hcz8_0 hcz8_1 hcz8_2
   try clear hfz8_0 hfz8_1 hfz8_2
   obtain ⟨kq, x18_5, rfl, HA, HJ5, BK210, HB⟩ := hcut
   cases kq with
   | zero => exact absurd HA.out (by simp [impl_LatticesInside.j0])
   | succ kj5 =>
    have H := HA.out
    clear HA
    simp only [impl_LatticesInside.j0] at H
    by_cases c11 : x18_5 = true
    ·subst c11
     have H1 : (some (([] : List (S27)), 2)) = some (r1, r2) := by rw [if_pos rfl] at H; exact H
     clear H
     have H := H1
     clear H1
     simp only [Option.some.injEq, Prod.mk.injEq] at H
     obtain ⟨rfl, rfl⟩ := H
     go_wp2
     repeat (go_quiet (fail); try go_wp2)
     go_ret2
     exact ⟨_, by first | rfl | (simp [errW_none, errW_some] <;> rfl) | (simp [*, errW_none, errW_some] <;> rfl), by first | exact Kd.R_nil _ _ _ _ _ | exact Kd.N_nil _ _ _ _ _ | exact Kd.V_nil _ _ _ _ _ | exact Kd.Q_nil _ _ _ _ _ | exact Kd.S_nil _ _ _ _ _, by repeat (first | (with_reducible first | exact HB.out | apply below_alloc | apply pw_below_drewN | apply below_drew1 | refine below_set ?_ GE210.out) | exact HB.out)⟩
    ·replace c11 := Bool.eq_false_iff.mpr c11
     subst c11
     have H1 : ((impl_power.f kj5 a0 (wrap64 (a2 + 1))).bind fun t212 => (if (wrap64 (a0 - 1)) = 0 then (none) else (if (wrap64 (Int.tdiv (wrap64 (t212 - 1)) (wrap64 (a0 - 1)))) > 100 then (some (([] : List (S27)), 3)) else (if (wrap64 (a1_0 + a2)) > 12 then (some (([] : List (S27)), 3)) else (if (wrap64 (a1_2 + a2)) > 12 then (some (([] : List (S27)), 3)) else (impl_LatticesInside.l0 kj5 a0 a2 (([] : List (S27))) (wrap64 (a2 + 1)) 0 a1_0 a1_1 a1_2)))))) = some (r1, r2) := by rw [if_neg (show ¬ (false = true) by decide)] at H; exact H
     clear H
     have H := H1
     clear H1
     replace H := Option.bind_eq_some_iff.mp H
     obtain ⟨t212, A120, H⟩ := H
     replace H : (if (wrap64 (a0 - 1)) = 0 then (none) else (if (wrap64 (Int.tdiv (wrap64 (t212 - 1)) (wrap64 (a0 - 1)))) > 100 then (some (([] : List (S27)), 3)) else (if (wrap64 (a1_0 + a2)) > 12 then (some (([] : List (S27)), 3)) else (if (wrap64 (a1_2 + a2)) > 12 then (some (([] : List (S27)), 3)) else (impl_LatticesInside.l0 kj5 a0 a2 (([] : List (S27))) (wrap64 (a2 + 1)) 0 a1_0 a1_1 a1_2))))) = some (r1, r2) := H
     have A12 := Aside0.mk A120
     clear A120
     by_cases c13 : (wrap64 (a0 - 1)) = 0
     ·rw [if_pos c13] at H
      exact absurd H (by simp)
     ·rw [if_neg c13] at H
      have c13b0 : ((wrap64 (a0 - 1)) == 0) = false := beq_eq_false_iff_ne.mpr c13
      have c13b1 : ((wrap64 (a0 - 1)) != 0) = true := bne_iff_ne.mpr c13
      by_cases c14 : (wrap64 (Int.tdiv (wrap64 (t212 - 1)) (wrap64 (a0 - 1)))) > 100
      ·rw [if_pos c14] at H
       have c14b0 : decide (100 < (wrap64 (Int.tdiv (wrap64 (t212 - 1)) (wrap64 (a0 - 1))))) = true := decide_eq_true c14
       clear c14
       simp only [Option.some.injEq, Prod.mk.injEq] at H
       obtain ⟨rfl, rfl⟩ := H
       go_wp2_with (first | (go_at_call 37; (with_reducible refine (impl_power.calls kj5 a0 (wrap64 (a2 + 1)) t212 _ A12.out).mono ?_); rintro e w' ⟨rfl, ⟨nd, rfl⟩⟩; (try first | exact ⟨rfl, _, World.drewN_drewN _ _ _⟩ | exact ⟨rfl, _, Eq.trans (World.drewN_drewN _ _ _) (congrArg (World.drewN _) (Nat.add_assoc _ _ _))⟩)))
       repeat (go_quiet (first | (go_at_call 37; (with_reducible refine (impl_power.calls kj5 a0 (wrap64 (a2 + 1)) t212 _ A12.out).mono ?_); rintro e w' ⟨rfl, ⟨nd, rfl⟩⟩; (try first | exact ⟨rfl, _, World.drewN_drewN _ _ _⟩ | exact ⟨rfl, _, Eq.trans (World.drewN_drewN _ _ _) (congrArg (World.drewN _) (Nat.add_assoc _ _ _))⟩))); try go_wp2_with (first | (go_at_call 37; (with_reducible refine (impl_power.calls kj5 a0 (wrap64 (a2 + 1)) t212 _ A12.out).mono ?_); rintro e w' ⟨rfl, ⟨nd, rfl⟩⟩; (try first | exact ⟨rfl, _, World.drewN_drewN _ _ _⟩ | exact ⟨rfl, _, Eq.trans (World.drewN_drewN _ _ _) (congrArg (World.drewN _) (Nat.add_assoc _ _ _))⟩))))
       go_ret2
       exact ⟨_, by first | rfl | (simp [errW_none, errW_some] <;> rfl) | (simp [*, errW_none, errW_some] <;> rfl), by first | exact Kd.R_nil _ _ _ _ _ | exact Kd.N_nil _ _ _ _ _ | exact Kd.V_nil _ _ _ _ _ | exact Kd.Q_nil _ _ _ _ _ | exact Kd.S_nil _ _ _ _ _, by repeat (first | (with_reducible first | exact HB.out | apply below_alloc | apply pw_below_drewN | apply below_drew1 | refine below_set ?_ GE210.out) | exact HB.out)⟩
      ·rw [if_neg c14] at H
       have c14b0 : decide (100 < (wrap64 (Int.tdiv (wrap64 (t212 - 1)) (wrap64 (a0 - 1))))) = false := decide_eq_false c14
       clear c14
       by_cases c15 : (wrap64 (a1_0 + a2)) > 12
       ·rw [if_pos c15] at H
        have c15b0 : decide (12 < (wrap64 (a1_0 + a2))) = true := decide_eq_true c15
        clear c15
        simp only [Option.some.injEq, Prod.mk.injEq] at H
        obtain ⟨rfl, rfl⟩ := H
        go_wp2_with (first | (go_at_call 37; (with_reducible refine (impl_power.calls kj5 a0 (wrap64 (a2 + 1)) t212 _ A12.out).mono ?_); rintro e w' ⟨rfl, ⟨nd, rfl⟩⟩; (try first | exact ⟨rfl, _, World.drewN_drewN _ _ _⟩ | exact ⟨rfl, _, Eq.trans (World.drewN_drewN _ _ _) (congrArg (World.drewN _) (Nat.add_assoc _ _ _))⟩); have hcz16_0 : wc.cell? ⟨gb210, 0, none⟩ = some (.int .i64 a1_0) := (blk_cell BK210.out 0).trans rfl; have hcz16_1 : wc.cell? ⟨gb210, 1, none⟩ = some (.int .i64 a1_1) := (blk_cell BK210.out 1).trans rfl; have hcz16_2 : wc.cell? ⟨gb210, 2, none⟩ = some (.int .i64 a1_2) := (blk_cell BK210.out 2).trans rfl; have hfz16_0 := blk_frozen BK210.out 0; have hfz16_1 := blk_frozen BK210.out 1; have hfz16_2 := blk_frozen BK210.out 2))
        repeat (go_quiet (first | (go_at_call 37; (with_reducible refine (impl_power.calls kj5 a0 (wrap64 (a2 + 1)) t212 _ A12.out).mono ?_); rintro e w' ⟨rfl, ⟨nd, rfl⟩⟩; (try first | exact ⟨rfl, _, World.drewN_drewN _ _ _⟩ | exact ⟨rfl, _, Eq.trans (World.drewN_drewN _ _ _) (congrArg (World.drewN _) (Nat.add_assoc _ _ _))⟩); have hcz16_0 : wc.cell? ⟨gb210, 0, none⟩ = some (.int .i64 a1_0) := (blk_cell BK210.out 0).trans rfl; have hcz16_1 : wc.cell? ⟨gb210, 1, none⟩ = some (.int .i64 a1_1) := (blk_cell BK210.out 1).trans rfl; have hcz16_2 : wc.cell? ⟨gb210, 2, none⟩ = some (.int .i64 a1_2) := (blk_cell BK210.out 2).trans rfl; have hfz16_0 := blk_frozen BK210.out 0; have hfz16_1 := blk_frozen BK210.out 1; have hfz16_2 := blk_frozen BK210.out 2)); try go_wp2_with (first | (go_at_call 37; (with_reducible refine (impl_power.calls kj5 a0 (wrap64 (a2 + 1)) t212 _ A12.out).mono ?_); rintro e w' ⟨rfl, ⟨nd, rfl⟩⟩; (try first | exact ⟨rfl, _, World.drewN_drewN _ _ _⟩ | exact ⟨rfl, _, Eq.trans (World.drewN_drewN _ _ _) (congrArg (World.drewN _) (Nat.add_assoc _ _ _))⟩); have hcz16_0 : wc.cell? ⟨gb210, 0, none⟩ = some (.int .i64 a1_0) := (blk_cell BK210.out 0).trans rfl; have hcz16_1 : wc.cell? ⟨gb210, 1, none⟩ = some (.int .i64 a1_1) := (blk_cell BK210.out 1).trans rfl; have hcz16_2 : wc.cell? ⟨gb210, 2, none⟩ = some (.int .i64 a1_2) := (blk_cell BK210.out 2).trans rfl; have hfz16_0 := blk_frozen BK210.out 0; have hfz16_1 := blk_frozen BK210.out 1; have hfz16_2 := blk_frozen BK210.out 2)))
        go_ret2
        exact ⟨_, by first | rfl | (simp [errW_none, errW_some] <;> rfl) | (simp [*, errW_none, errW_some] <;> rfl), by first | exact Kd.R_nil _ _ _ _ _ | exact Kd.N_nil _ _ _ _ _ | exact Kd.V_nil _ _ _ _ _ | exact Kd.Q_nil _ _ _ _ _ | exact Kd.S_nil _ _ _ _ _, by repeat (first | (with_reducible first | exact HB.out | apply below_alloc | apply pw_below_drewN | apply below_drew1 | refine below_set ?_ GE210.out) | exact HB.out)⟩
       ·rw [if_neg c15] at H
        have c15b0 : decide (12 < (wrap64 (a1_0 + a2))) = false := decide_eq_false c15
        clear c15
        by_cases c17 : (wrap64 (a1_2 + a2)) > 12
        ·rw [if_pos c17] at H
         have c17b0 : decide (12 < (wrap64 (a1_2 + a2))) = true := decide_eq_true c17
         clear c17
         simp only [Option.some.injEq, Prod.mk.injEq] at H
         obtain ⟨rfl, rfl⟩ := H
         go_wp2_with (first | (go_at_call 37; (with_reducible refine (impl_power.calls kj5 a0 (wrap64 (a2 + 1)) t212 _ A12.out).mono ?_); rintro e w' ⟨rfl, ⟨nd, rfl⟩⟩; (try first | exact ⟨rfl, _, World.drewN_drewN _ _ _⟩ | exact ⟨rfl, _, Eq.trans (World.drewN_drewN _ _ _) (congrArg (World.drewN _) (Nat.add_assoc _ _ _))⟩); have hcz18_0 : wc.cell? ⟨gb210, 0, none⟩ = some (.int .i64 a1_0) := (blk_cell BK210.out 0).trans rfl; have hcz18_1 : wc.cell? ⟨gb210, 1, none⟩ = some (.int .i64 a1_1) := (blk_cell BK210.out 1).trans rfl; have hcz18_2 : wc.cell? ⟨gb210, 2, none⟩ = some (.int .i64 a1_2) := (blk_cell BK210.out 2).trans rfl; have hfz18_0 := blk_frozen BK210.out 0; have hfz18_1 := blk_frozen BK210.out 1; have hfz18_2 := blk_frozen BK210.out 2))
         repeat (go_quiet (first | (go_at_call 37; (with_reducible refine (impl_power.calls kj5 a0 (wrap64 (a2 + 1)) t212 _ A12.out).mono ?_); rintro e w' ⟨rfl, ⟨nd, rfl⟩⟩; (try first | exact ⟨rfl, _, World.drewN_drewN _ _ _⟩ | exact ⟨rfl, _, Eq.trans (World.drewN_drewN _ _ _) (congrArg (World.drewN _) (Nat.add_assoc _ _ _))⟩); have hcz18_0 : wc.cell? ⟨gb210, 0, none⟩ = some (.int .i64 a1_0) := (blk_cell BK210.out 0).trans rfl; have hcz18_1 : wc.cell? ⟨gb210, 1, none⟩ = some (.int .i64 a1_1) := (blk_cell BK210.out 1).trans rfl; have hcz18_2 : wc.cell? ⟨gb210, 2, none⟩ = some (.int .i64 a1_2) := (blk_cell BK210.out 2).trans rfl; have hfz18_0 := blk_frozen BK210.out 0; have hfz18_1 := blk_frozen BK210.out 1; have hfz18_2 := blk_frozen BK210.out 2)); try go_wp2_with (first | (go_at_call 37; (with_reducible refine (impl_power.calls kj5 a0 (wrap64 (a2 + 1)) t212 _ A12.out).mono ?_); rintro e w' ⟨rfl, ⟨nd, rfl⟩⟩; (try first | exact ⟨rfl, _, World.drewN_drewN _ _ _⟩ | exact ⟨rfl, _, Eq.trans (World.drewN_drewN _ _ _) (congrArg (World.drewN _) (Nat.add_assoc _ _ _))⟩); have hcz18_0 : wc.cell? ⟨gb210, 0, none⟩ = some (.int .i64 a1_0) := (blk_cell BK210.out 0).trans rfl; have hcz18_1 : wc.cell? ⟨gb210, 1, none⟩ = some (.int .i64 a1_1) := (blk_cell BK210.out 1).trans rfl; have hcz18_2 : wc.cell? ⟨gb210, 2, none⟩ = some (.int .i64 a1_2) := (blk_cell BK210.out 2).trans rfl; have hfz18_0 := blk_frozen BK210.out 0; have hfz18_1 := blk_frozen BK210.out 1; have hfz18_2 := blk_frozen BK210.out 2)))
         go_ret2
         exact ⟨_, by first | rfl | (simp [errW_none, errW_some] <;> rfl) | (simp [*, errW_none, errW_some] <;> rfl), by first | exact Kd.R_nil _ _ _ _ _ | exact Kd.N_nil _ _ _ _ _ | exact Kd.V_nil _ _ _ _ _ | exact Kd.Q_nil _ _ _ _ _ | exact Kd.S_nil _ _ _ _ _, by repeat (first | (with_reducible first | exact HB.out | apply below_alloc | apply pw_below_drewN | apply below_drew1 | refine below_set ?_ GE210.out) | exact HB.out)⟩
        ·rw [if_neg c17] at H
         have c17b0 : decide (12 < (wrap64 (a1_2 + a2))) = false := decide_eq_false c17
         clear c17
         obtain ⟨y213, hy213⟩ : ∃ y_ : List (S27), y_ = (([] : List (S27))) := ⟨_, rfl⟩
         replace H : (impl_LatticesInside.l0 kj5 a0 a2 y213 (wrap64 (a2 + 1)) 0 a1_0 a1_1 a1_2) = some (r1, r2) := by first | (rw [hy213]; with_reducible exact H) | (have H2_ := (Option.bind_some _ _).symm.trans H; rw [hy213]; with_reducible exact H2_) | (have H2_ := (Option.bind_some _ _).symm.trans H; with_reducible exact H2_) | with_reducible exact H | (rw [hy213]; exact H) | exact H
         have Ny213 := Aside0.mk hy213
         clear hy213
         have H' := Aside0.mk H
         clear H
         go_wp2_with (first | (go_at_call 37; (with_reducible refine (impl_power.calls kj5 a0 (wrap64 (a2 + 1)) t212 _ A12.out).mono ?_); rintro e w' ⟨rfl, ⟨nd, rfl⟩⟩; (try first | exact ⟨rfl, _, World.drewN_drewN _ _ _⟩ | exact ⟨rfl, _, Eq.trans (World.drewN_drewN _ _ _) (congrArg (World.drewN _) (Nat.add_assoc _ _ _))⟩); have hcz19_0 : wc.cell? ⟨gb210, 0, none⟩ = some (.int .i64 a1_0) := (blk_cell BK210.out 0).trans rfl; have hcz19_1 : wc.cell? ⟨gb210, 1, none⟩ = some (.int .i64 a1_1) := (blk_cell BK210.out 1).trans rfl; have hcz19_2 : wc.cell? ⟨gb210, 2, none⟩ = some (.int .i64 a1_2) := (blk_cell BK210.out 2).trans rfl; have hfz19_0 := blk_frozen BK210.out 0; have hfz19_1 := blk_frozen BK210.out 1; have hfz19_2 := blk_frozen BK210.out 2) | ((with_reducible refine gate_dst (N := 48) rfl ?_); refine Kd.R_lit k27 _ 27 ?hg (N := 48) ?hd (xs := ([] : List (S27))) (inner := []) (ok := fun _ => True) (okp := fun _ => True) ?hr ?hp (fun _ hk => hk) trivial (Below.refl _ _) (Nat.le_refl _) (by simp) ?_; (case hd => rfl); (case hg => rfl); (case hr => first | (go_simp; done) | (go_simp; rfl)); (case hp => exact (Reps.none _ _)); intro v214 w20 ho21 hb hg_ hnew_; clear hg_ hnew_; (first | rw [← Ny213.out] at ho21 | (simp only [Int.reduceToNat] at ho21; rw [← Ny213.out] at ho21)); have HO215 := Aside0.mk (Kd.R_lower (Kd.R_newB ho21 (g := gb210) (o := .cells #[.int .i64 a1_0, .int .i64 a1_1, .int .i64 a1_2] 27 (0, 0)) (be BK210)) (below_size (by repeat (first | (with_reducible first | exact HB.out | apply below_alloc | apply pw_below_drewN | apply below_drew1 | refine below_set ?_ GE210.out) | exact HB.out)))); replace BK210 := bb BK210 hb; replace HB := bs hb; clear hb ho21))
         repeat (go_quiet (first | (go_at_call 37; (with_reducible refine (impl_power.calls kj5 a0 (wrap64 (a2 + 1)) t212 _ A12.out).mono ?_); rintro e w' ⟨rfl, ⟨nd, rfl⟩⟩; (try first | exact ⟨rfl, _, World.drewN_drewN _ _ _⟩ | exact ⟨rfl, _, Eq.trans (World.drewN_drewN _ _ _) (congrArg (World.drewN _) (Nat.add_assoc _ _ _))⟩); have hcz19_0 : wc.cell? ⟨gb210, 0, none⟩ = some (.int .i64 a1_0) := (blk_cell BK210.out 0).trans rfl; have hcz19_1 : wc.cell? ⟨gb210, 1, none⟩ = some (.int .i64 a1_1) := (blk_cell BK210.out 1).trans rfl; have hcz19_2 : wc.cell? ⟨gb210, 2, none⟩ = some (.int .i64 a1_2) := (blk_cell BK210.out 2).trans rfl; have hfz19_0 := blk_frozen BK210.out 0; have hfz19_1 := blk_frozen BK210.out 1; have hfz19_2 := blk_frozen BK210.out 2) | ((with_reducible refine gate_dst (N := 48) rfl ?_); refine Kd.R_lit k27 _ 27 ?hg (N := 48) ?hd (xs := ([] : List (S27))) (inner := []) (ok := fun _ => True) (okp := fun _ => True) ?hr ?hp (fun _ hk => hk) trivial (Below.refl _ _) (Nat.le_refl _) (by simp) ?_; (case hd => rfl); (case hg => rfl); (case hr => first | (go_simp; done) | (go_simp; rfl)); (case hp => exact (Reps.none _ _)); intro v214 w20 ho21 hb hg_ hnew_; clear hg_ hnew_; (first | rw [← Ny213.out] at ho21 | (simp only [Int.reduceToNat] at ho21; rw [← Ny213.out] at ho21)); have HO215 := Aside0.mk (Kd.R_lower (Kd.R_newB ho21 (g := gb210) (o := .cells #[.int .i64 a1_0, .int .i64 a1_1, .int .i64 a1_2] 27 (0, 0)) (be BK210)) (below_size (by repeat (first | (with_reducible first | exact HB.out | apply below_alloc | apply pw_below_drewN | apply below_drew1 | refine below_set ?_ GE210.out) | exact HB.out)))); replace BK210 := bb BK210 hb; replace HB := bs hb; clear hb ho21)); try go_wp2_with (first | (go_at_call 37; (with_reducible refine (impl_power.calls kj5 a0 (wrap64 (a2 + 1)) t212 _ A12.out).mono ?_); rintro e w' ⟨rfl, ⟨nd, rfl⟩⟩; (try first | exact ⟨rfl, _, World.drewN_drewN _ _ _⟩ | exact ⟨rfl, _, Eq.trans (World.drewN_drewN _ _ _) (congrArg (World.drewN _) (Nat.add_assoc _ _ _))⟩); have hcz19_0 : wc.cell? ⟨gb210, 0, none⟩ = some (.int .i64 a1_0) := (blk_cell BK210.out 0).trans rfl; have hcz19_1 : wc.cell? ⟨gb210, 1, none⟩ = some (.int .i64 a1_1) := (blk_cell BK210.out 1).trans rfl; have hcz19_2 : wc.cell? ⟨gb210, 2, none⟩ = some (.int .i64 a1_2) := (blk_cell BK210.out 2).trans rfl; have hfz19_0 := blk_frozen BK210.out 0; have hfz19_1 := blk_frozen BK210.out 1; have hfz19_2 := blk_frozen BK210.out 2) | ((with_reducible refine gate_dst (N := 48) rfl ?_); refine Kd.R_lit k27 _ 27 ?hg (N := 48) ?hd (xs := ([] : List (S27))) (inner := []) (ok := fun _ => True) (okp := fun _ => True) ?hr ?hp (fun _ hk => hk) trivial (Below.refl _ _) (Nat.le_refl _) (by simp) ?_; (case hd => rfl); (case hg => rfl); (case hr => first | (go_simp; done) | (go_simp; rfl)); (case hp => exact (Reps.none _ _)); intro v214 w20 ho21 hb hg_ hnew_; clear hg_ hnew_; (first | rw [← Ny213.out] at ho21 | (simp only [Int.reduceToNat] at ho21; rw [← Ny213.out] at ho21)); have HO215 := Aside0.mk (Kd.R_lower (Kd.R_newB ho21 (g := gb210) (o := .cells #[.int .i64 a1_0, .int .i64 a1_1, .int .i64 a1_2] 27 (0, 0)) (be BK210)) (below_size (by repeat (first | (with_reducible first | exact HB.out | apply below_alloc | apply pw_below_drewN | apply below_drew1 | refine below_set ?_ GE210.out) | exact HB.out)))); replace BK210 := bb BK210 hb; replace HB := bs hb; clear hb ho21)))
         go_loopg [8, 51] kj5 (fun kq v8 v51 w' => ∃ (x8_2 : List (S27)) (x51_2 : Int), v51 = .int .i64 x51_2 ∧ Aside0 (impl_LatticesInside.l0 kq a0 a2 x8_2 (wrap64 (a2 + 1)) x51_2 a1_0 a1_1 a1_2 = some (r1, r2)) ∧ Aside0 (kq ≤ kj5) ∧ Aside0 (Kd.R k27 27 w' w.heap.size (fun k_ => k_ ≠ gb210) v8 x8_2) ∧ Aside0 (w'.heap[gb210]? = some (.cells #[.int .i64 a1_0, .int .i64 a1_1, .int .i64 a1_2] 27 (0, 0))) ∧ Aside0 (Below w.heap.size w w'))
         case atStart => exact ⟨(y213), (0), (by first | rfl | (simp; done) | (simp [*]; done)), H', ⟨Nat.le_refl _⟩, ⟨by (with_reducible repeat (first | apply Kd.R_alloc | apply Kd.R_drewN | apply Kd.R_drew)); exact Kd.R_mono HO215.out (fun _ hk => hk.2)⟩, ⟨be BK210⟩, ⟨by repeat (first | (with_reducible first | exact HB.out | apply below_alloc | apply pw_below_drewN | apply below_drew1 | refine below_set ?_ GE210.out) | exact HB.out)⟩⟩
         case round =>
          clear H'
          try clear c1
          try clear p2
          try clear c5
          try clear p6
          try clear c7
          try clear c10
          try clear c10b0
          try clear c11
          try clear c13
          try clear c13b0
          try clear c13b1
          try clear c14
          try clear c14b0
          try clear c15
          try clear c15b0
          try clear c17
          try clear c17b0
          try clear hcz16_0 hcz16_1 hcz16_2
          try clear hcz18_0 hcz18_1 hcz18_2
          try clear hcz19_0 hcz19_1 hcz19_2
          try clear hcz8_0 hcz8_1 hcz8_2
          try clear hfz16_0 hfz16_1 hfz16_2
          try clear hfz18_0 hfz18_1 hfz18_2
          try clear hfz19_0 hfz19_1 hfz19_2
          try clear hfz8_0 hfz8_1 hfz8_2
          try clear p2
          obtain ⟨x8_2, x51_2, rfl, HA, HK2, HO_8, BK210, HB⟩ := hrel
          cases gk with
          | zero => exact absurd HA.out (by simp [impl_LatticesInside.l0])
          | succ k2 =>
           have H := HA.out
           clear HA
           simp only [impl_LatticesInside.l0] at H
           by_cases c22 : x51_2 < (wrap64 (a2 + 1))
           ·rw [if_pos c22] at H
            have c22b0 : decide (x51_2 < (wrap64 (a2 + 1))) = true := decide_eq_true c22
            clear c22
            replace H := Option.bind_eq_some_iff.mp H
            obtain ⟨t218, A230, H⟩ := H
            replace H : ((impl_power.f k2 a0 x51_2).bind fun t219 => (impl_LatticesInside.l1 k2 a0 a2 x8_2 x51_2 t218 (wrap64 (a2 + 1)) x51_2 t219 0 a1_0 a1_1 a1_2)) = some (r1, r2) := H
            have A23 := Aside0.mk A230
            clear A230
            replace H := Option.bind_eq_some_iff.mp H
            obtain ⟨t219, A240, H⟩ := H
            replace H : (impl_LatticesInside.l1 k2 a0 a2 x8_2 x51_2 t218 (wrap64 (a2 + 1)) x51_2 t219 0 a1_0 a1_1 a1_2) = some (r1, r2) := H
            have A24 := Aside0.mk A240
            clear A240
            have H' := Aside0.mk H
            clear H
            have hcz25_0 : wr.cell? ⟨gb210, 0, none⟩ = some (.int .i64 a1_0) := (blk_cell BK210.out 0).trans rfl
            have hcz25_1 : wr.cell? ⟨gb210, 1, none⟩ = some (.int .i64 a1_1) := (blk_cell BK210.out 1).trans rfl
            have hcz25_2 : wr.cell? ⟨gb210, 2, none⟩ = some (.int .i64 a1_2) := (blk_cell BK210.out 2).trans rfl
            have hfz25_0 := blk_frozen BK210.out 0
            have hfz25_1 := blk_frozen BK210.out 1
            have hfz25_2 := blk_frozen BK210.out 2
            go_wp2_with (first | (go_at_call 37; (with_reducible refine (impl_power.calls k2 a0 (wrap64 (a1_0 + x51_2)) t218 _ A23.out).mono ?_); rintro e w' ⟨rfl, ⟨nd, rfl⟩⟩; (try first | exact ⟨rfl, _, World.drewN_drewN _ _ _⟩ | exact ⟨rfl, _, Eq.trans (World.drewN_drewN _ _ _) (congrArg (World.drewN _) (Nat.add_assoc _ _ _))⟩)) | (go_at_call 37; (with_reducible refine (impl_power.calls k2 a0 x51_2 t219 _ A24.out).mono ?_); rintro e w' ⟨rfl, ⟨nd, rfl⟩⟩; (try first | exact ⟨rfl, _, World.drewN_drewN _ _ _⟩ | exact ⟨rfl, _, Eq.trans (World.drewN_drewN _ _ _) (congrArg (World.drewN _) (Nat.add_assoc _ _ _))⟩)))
            repeat (go_quiet (first | (go_at_call 37; (with_reducible refine (impl_power.calls k2 a0 (wrap64 (a1_0 + x51_2)) t218 _ A23.out).mono ?_); rintro e w' ⟨rfl, ⟨nd, rfl⟩⟩; (try first | exact ⟨rfl, _, World.drewN_drewN _ _ _⟩ | exact ⟨rfl, _, Eq.trans (World.drewN_drewN _ _ _) (congrArg (World.drewN _) (Nat.add_assoc _ _ _))⟩)) | (go_at_call 37; (with_reducible refine (impl_power.calls k2 a0 x51_2 t219 _ A24.out).mono ?_); rintro e w' ⟨rfl, ⟨nd, rfl⟩⟩; (try first | exact ⟨rfl, _, World.drewN_drewN _ _ _⟩ | exact ⟨rfl, _, Eq.trans (World.drewN_drewN _ _ _) (congrArg (World.drewN _) (Nat.add_assoc _ _ _))⟩))); try go_wp2_with (first | (go_at_call 37; (with_reducible refine (impl_power.calls k2 a0 (wrap64 (a1_0 + x51_2)) t218 _ A23.out).mono ?_); rintro e w' ⟨rfl, ⟨nd, rfl⟩⟩; (try first | exact ⟨rfl, _, World.drewN_drewN _ _ _⟩ | exact ⟨rfl, _, Eq.trans (World.drewN_drewN _ _ _) (congrArg (World.drewN _) (Nat.add_assoc _ _ _))⟩)) | (go_at_call 37; (with_reducible refine (impl_power.calls k2 a0 x51_2 t219 _ A24.out).mono ?_); rintro e w' ⟨rfl, ⟨nd, rfl⟩⟩; (try first | exact ⟨rfl, _, World.drewN_drewN _ _ _⟩ | exact ⟨rfl, _, Eq.trans (World.drewN_drewN _ _ _) (congrArg (World.drewN _) (Nat.add_assoc _ _ _))⟩))))
            go_loopg [8, 63] k2 (fun kq v8 v63 w' => ∃ (x8_3 : List (S27)) (x63_3 : Int), v63 = .int .i64 x63_3 ∧ Aside0 (impl_LatticesInside.l1 kq a0 a2 x8_3 x51_2 t218 (wrap64 (a2 + 1)) x51_2 t219 x63_3 a1_0 a1_1 a1_2 = some (r1, r2)) ∧ Aside0 (kq ≤ k2) ∧ Aside0 (Kd.R k27 27 w' w.heap.size (fun k_ => k_ ≠ gb210) v8 x8_3) ∧ Aside0 (w'.heap[gb210]? = some (.cells #[.int .i64 a1_0, .int .i64 a1_1, .int .i64 a1_2] 27 (0, 0))) ∧ Aside0 (Below w.heap.size w w'))
            case atStart => exact ⟨(x8_2), (0), (by first | rfl | (simp; done) | (simp [*]; done)), H', ⟨Nat.le_refl _⟩, ⟨by (with_reducible repeat (first | apply Kd.R_alloc | apply Kd.R_drewN | apply Kd.R_drew)); exact HO_8.out⟩, ⟨be BK210⟩, ⟨by repeat (first | (with_reducible first | exact HB.out | apply below_alloc | apply pw_below_drewN | apply below_drew1 | refine below_set ?_ GE210.out) | exact HB.out)⟩⟩
            case round =>
             clear H'
             try clear c1
             try clear c2
             try clear p2
             try clear c5
             try clear p6
             try clear c7
             try clear c10
             try clear c10b0
             try clear c11
             try clear c13
             try clear c13b0
             try clear c13b1
             try clear c14
             try clear c14b0
             try clear c15
             try clear c15b0
             try clear c17
             try clear c17b0
             try clear c22
             try clear c22b0
             try clear hcz16_0 hcz16_1 hcz16_2
             try clear hcz18_0 hcz18_1 hcz18_2
             try clear hcz19_0 hcz19_1 hcz19_2
             try clear hcz25_0 hcz25_1 hcz25_2
             try clear hcz8_0 hcz8_1 hcz8_2
             try clear hfz16_0 hfz16_1 hfz16_2
             try clear hfz18_0 hfz18_1 hfz18_2
             try clear hfz19_0 hfz19_1 hfz19_2
             try clear hfz25_0 hfz25_1 hfz25_2
             try clear hfz8_0 hfz8_1 hfz8_2
             try clear p2
             try clear p6
             obtain ⟨x8_3, x63_3, rfl, HA, HK3, HO_8, BK210, HB⟩ := hrel
             cases gk with
             | zero => exact absurd HA.out (by simp [impl_LatticesInside.l1])
             | succ k3 =>
              have H := HA.out
              clear HA
              simp only [impl_LatticesInside.l1] at H
              by_cases c26 : x63_3 < t219
              ·rw [if_pos c26] at H
               have c26b0 : decide (x63_3 < t219) = true := decide_eq_true c26
               clear c26
               replace H := Option.bind_eq_some_iff.mp H
               obtain ⟨t220, A270, H⟩ := H
               replace H : ((impl_power.f k3 a0 (wrap64 (a2 - x51_2))).bind fun t221 => ((impl_times.f k3 a1_1 t221 t218).bind fun t222 => ((impl_mod.f (wrap64 ((wrap64 (t220 * x63_3)) + t222)) t218).bind fun t223 => (if x8_3.length < 5864062014805 then (impl_LatticesInside.l1 k3 a0 a2 (x8_3 ++ [(⟨wrap64 (a1_0 + x51_2), t223, wrap64 ((wrap64 (a1_2 + a2)) - x51_2)⟩ : S27)]) x51_2 t218 (wrap64 (a2 + 1)) x51_2 t219 (wrap64 (x63_3 + 1)) a1_0 a1_1 a1_2) else (none))))) = some (r1, r2) := H
               have A27 := Aside0.mk A270
               clear A270
               replace H := Option.bind_eq_some_iff.mp H
               obtain ⟨t221, A280, H⟩ := H
               replace H : ((impl_times.f k3 a1_1 t221 t218).bind fun t222 => ((impl_mod.f (wrap64 ((wrap64 (t220 * x63_3)) + t222)) t218).bind fun t223 => (if x8_3.length < 5864062014805 then (impl_LatticesInside.l1 k3 a0 a2 (x8_3 ++ [(⟨wrap64 (a1_0 + x51_2), t223, wrap64 ((wrap64 (a1_2 + a2)) - x51_2)⟩ : S27)]) x51_2 t218 (wrap64 (a2 + 1)) x51_2 t219 (wrap64 (x63_3 + 1)) a1_0 a1_1 a1_2) else (none)))) = some (r1, r2) := H
               have A28 := Aside0.mk A280
               clear A280
               replace H := Option.bind_eq_some_iff.mp H
               obtain ⟨t222, A290, H⟩ := H
               replace H : ((impl_mod.f (wrap64 ((wrap64 (t220 * x63_3)) + t222)) t218).bind fun t223 => (if x8_3.length < 5864062014805 then (impl_LatticesInside.l1 k3 a0 a2 (x8_3 ++ [(⟨wrap64 (a1_0 + x51_2), t223, wrap64 ((wrap64 (a1_2 + a2)) - x51_2)⟩ : S27)]) x51_2 t218 (wrap64 (a2 + 1)) x51_2 t219 (wrap64 (x63_3 + 1)) a1_0 a1_1 a1_2) else (none))) = some (r1, r2) := H
               have A29 := Aside0.mk A290
               clear A290
               replace H := Option.bind_eq_some_iff.mp H
               obtain ⟨t223, A300, H⟩ := H
               replace H : (if x8_3.length < 5864062014805 then (impl_LatticesInside.l1 k3 a0 a2 (x8_3 ++ [(⟨wrap64 (a1_0 + x51_2), t223, wrap64 ((wrap64 (a1_2 + a2)) - x51_2)⟩ : S27)]) x51_2 t218 (wrap64 (a2 + 1)) x51_2 t219 (wrap64 (x63_3 + 1)) a1_0 a1_1 a1_2) else (none)) = some (r1, r2) := H
               have A30 := Aside0.mk A300
               clear A300
               by_cases c31 : x8_3.length < 5864062014805
               ·rw [if_pos c31] at H
                have LMc31 := Aside0.mk c31
                clear c31
                obtain ⟨y224, hy224⟩ : ∃ y_ : List (S27), y_ = (x8_3 ++ [(⟨wrap64 (a1_0 + x51_2), t223, wrap64 ((wrap64 (a1_2 + a2)) - x51_2)⟩ : S27)]) := ⟨_, rfl⟩
                replace H : (impl_LatticesInside.l1 k3 a0 a2 y224 x51_2 t218 (wrap64 (a2 + 1)) x51_2 t219 (wrap64 (x63_3 + 1)) a1_0 a1_1 a1_2) = some (r1, r2) := by first | (rw [hy224]; with_reducible exact H) | (have H2_ := (Option.bind_some _ _).symm.trans H; rw [hy224]; with_reducible exact H2_) | (have H2_ := (Option.bind_some _ _).symm.trans H; with_reducible exact H2_) | with_reducible exact H | (rw [hy224]; exact H) | exact H
                have Ny224 := Aside0.mk hy224
                clear hy224
                have H' := Aside0.mk H
                clear H
                have hcz32_0 : wr.cell? ⟨gb210, 0, none⟩ = some (.int .i64 a1_0) := (blk_cell BK210.out 0).trans rfl
                have hcz32_1 : wr.cell? ⟨gb210, 1, none⟩ = some (.int .i64 a1_1) := (blk_cell BK210.out 1).trans rfl
                have hcz32_2 : wr.cell? ⟨gb210, 2, none⟩ = some (.int .i64 a1_2) := (blk_cell BK210.out 2).trans rfl
                have hfz32_0 := blk_frozen BK210.out 0
                have hfz32_1 := blk_frozen BK210.out 1
                have hfz32_2 := blk_frozen BK210.out 2
                go_wp2_with (first | (go_at_call 37; (with_reducible refine (impl_power.calls k3 a0 a1_0 t220 _ A27.out).mono ?_); rintro e w' ⟨rfl, ⟨nd, rfl⟩⟩; (try first | exact ⟨rfl, _, World.drewN_drewN _ _ _⟩ | exact ⟨rfl, _, Eq.trans (World.drewN_drewN _ _ _) (congrArg (World.drewN _) (Nat.add_assoc _ _ _))⟩)) | (go_at_call 37; (with_reducible refine (impl_power.calls k3 a0 (wrap64 (a2 - x51_2)) t221 _ A28.out).mono ?_); rintro e w' ⟨rfl, ⟨nd, rfl⟩⟩; (try first | exact ⟨rfl, _, World.drewN_drewN _ _ _⟩ | exact ⟨rfl, _, Eq.trans (World.drewN_drewN _ _ _) (congrArg (World.drewN _) (Nat.add_assoc _ _ _))⟩)) | (go_at_call 39; (with_reducible refine (impl_times.calls k3 a1_1 t221 t218 t222 _ A29.out).mono ?_); rintro e w' ⟨rfl, ⟨nd, rfl⟩⟩; (try first | exact ⟨rfl, _, World.drewN_drewN _ _ _⟩ | exact ⟨rfl, _, Eq.trans (World.drewN_drewN _ _ _) (congrArg (World.drewN _) (Nat.add_assoc _ _ _))⟩)) | (go_at_call 38; (with_reducible refine (impl_mod.calls (wrap64 ((wrap64 (t220 * x63_3)) + t222)) t218 t223 _ A30.out).mono ?_); rintro e w' ⟨rfl, ⟨nd, rfl⟩⟩; (try first | exact ⟨rfl, _, World.drewN_drewN _ _ _⟩ | exact ⟨rfl, _, Eq.trans (World.drewN_drewN _ _ _) (congrArg (World.drewN _) (Nat.add_assoc _ _ _))⟩)) | ((with_reducible refine gate_builtin (b := .append) (xs := #[.tmp 84, .tmp 97]) rfl ?_); at_builtin; refine Kd.R_append k27 (w0 := w) w.heap.size rfl (.tmp 84) (.tmp 97) 24 27 (.agg #[(.int .i64 0), (.int .i64 0), (.int .i64 0)]) 24 rfl Try.underlying24 info27 rfl (by decide) (by omega) u8 x8_3 (⟨wrap64 (a1_0 + x51_2), t223, wrap64 ((wrap64 (a1_2 + a2)) - x51_2)⟩ : S27) [.int .i64 (wrap64 (a1_0 + x51_2)), .int .i64 t223, .int .i64 (wrap64 ((wrap64 (a1_2 + a2)) - x51_2))] (fun k_ => k_ ≠ gb210) (fun _ => False) rfl rfl ?aP (fun _ hk => hk.elim) ?aF ?aO ?aB ?aS ?aL ?_; (case aP => exact k27_mkM _ _ _ (⟨wrap64 (a1_0 + x51_2), t223, wrap64 ((wrap64 (a1_2 + a2)) - x51_2)⟩ : S27)); (case aB => exact (by repeat (first | (with_reducible first | exact HB.out | apply below_alloc | apply pw_below_drewN | apply below_drew1 | refine below_set ?_ GE210.out) | exact HB.out))); (case aF => exact (fun k_ hk => Kd.freshB (g := gb210) (o := .cells #[.int .i64 a1_0, .int .i64 a1_1, .int .i64 a1_2] 27 (0, 0)) (be BK210) k_ hk)); (case aO => exact (by (with_reducible repeat (first | apply Kd.R_alloc | apply Kd.R_drewN | apply Kd.R_drew)); exact HO_8.out)); (case aS => exact (below_size (by repeat (first | (with_reducible first | exact HB.out | apply below_alloc | apply pw_below_drewN | apply below_drew1 | refine below_set ?_ GE210.out) | exact HB.out)))); (case aL => have := LMc31.out; omega); intro v225 w33 ho hb hg hat; rw [← Ny224.out] at ho; have n0_ := Aside0.mk (blk_grown (g := gb210) (o := .cells #[.int .i64 a1_0, .int .i64 a1_1, .int .i64 a1_2] 27 (0, 0)) (be BK210) hg (Kd.R_away HO_8.out (fun _ hk => hk))); have n1_ := Aside0.mk (hb); have n2_ := Aside0.mk (ho); clear BK210; clear HB; clear HO_8; have BK210 := n0_; have HB := n1_; have HO226 := n2_; clear n0_ n1_ n2_; clear ho hb hg hat))
                repeat (go_quiet (first | (go_at_call 37; (with_reducible refine (impl_power.calls k3 a0 a1_0 t220 _ A27.out).mono ?_); rintro e w' ⟨rfl, ⟨nd, rfl⟩⟩; (try first | exact ⟨rfl, _, World.drewN_drewN _ _ _⟩ | exact ⟨rfl, _, Eq.trans (World.drewN_drewN _ _ _) (congrArg (World.drewN _) (Nat.add_assoc _ _ _))⟩)) | (go_at_call 37; (with_reducible refine (impl_power.calls k3 a0 (wrap64 (a2 - x51_2)) t221 _ A28.out).mono ?_); rintro e w' ⟨rfl, ⟨nd, rfl⟩⟩; (try first | exact ⟨rfl, _, World.drewN_drewN _ _ _⟩ | exact ⟨rfl, _, Eq.trans (World.drewN_drewN _ _ _) (congrArg (World.drewN _) (Nat.add_assoc _ _ _))⟩)) | (go_at_call 39; (with_reducible refine (impl_times.calls k3 a1_1 t221 t218 t222 _ A29.out).mono ?_); rintro e w' ⟨rfl, ⟨nd, rfl⟩⟩; (try first | exact ⟨rfl, _, World.drewN_drewN _ _ _⟩ | exact ⟨rfl, _, Eq.trans (World.drewN_drewN _ _ _) (congrArg (World.drewN _) (Nat.add_assoc _ _ _))⟩)) | (go_at_call 38; (with_reducible refine (impl_mod.calls (wrap64 ((wrap64 (t220 * x63_3)) + t222)) t218 t223 _ A30.out).mono ?_); rintro e w' ⟨rfl, ⟨nd, rfl⟩⟩; (try first | exact ⟨rfl, _, World.drewN_drewN _ _ _⟩ | exact ⟨rfl, _, Eq.trans (World.drewN_drewN _ _ _) (congrArg (World.drewN _) (Nat.add_assoc _ _ _))⟩)) | ((with_reducible refine gate_builtin (b := .append) (xs := #[.tmp 84, .tmp 97]) rfl ?_); at_builtin; refine Kd.R_append k27 (w0 := w) w.heap.size rfl (.tmp 84) (.tmp 97) 24 27 (.agg #[(.int .i64 0), (.int .i64 0), (.int .i64 0)]) 24 rfl Try.underlying24 info27 rfl (by decide) (by omega) u8 x8_3 (⟨wrap64 (a1_0 + x51_2), t223, wrap64 ((wrap64 (a1_2 + a2)) - x51_2)⟩ : S27) [.int .i64 (wrap64 (a1_0 + x51_2)), .int .i64 t223, .int .i64 (wrap64 ((wrap64 (a1_2 + a2)) - x51_2))] (fun k_ => k_ ≠ gb210) (fun _ => False) rfl rfl ?aP (fun _ hk => hk.elim) ?aF ?aO ?aB ?aS ?aL ?_; (case aP => exact k27_mkM _ _ _ (⟨wrap64 (a1_0 + x51_2), t223, wrap64 ((wrap64 (a1_2 + a2)) - x51_2)⟩ : S27)); (case aB => exact (by repeat (first | (with_reducible first | exact HB.out | apply below_alloc | apply pw_below_drewN | apply below_drew1 | refine below_set ?_ GE210.out) | exact HB.out))); (case aF => exact (fun k_ hk => Kd.freshB (g := gb210) (o := .cells #[.int .i64 a1_0, .int .i64 a1_1, .int .i64 a1_2] 27 (0, 0)) (be BK210) k_ hk)); (case aO => exact (by (with_reducible repeat (first | apply Kd.R_alloc | apply Kd.R_drewN | apply Kd.R_drew)); exact HO_8.out)); (case aS => exact (below_size (by repeat (first | (with_reducible first | exact HB.out | apply below_alloc | apply pw_below_drewN | apply below_drew1 | refine below_set ?_ GE210.out) | exact HB.out)))); (case aL => have := LMc31.out; omega); intro v225 w33 ho hb hg hat; rw [← Ny224.out] at ho; have n0_ := Aside0.mk (blk_grown (g := gb210) (o := .cells #[.int .i64 a1_0, .int .i64 a1_1, .int .i64 a1_2] 27 (0, 0)) (be BK210) hg (Kd.R_away HO_8.out (fun _ hk => hk))); have n1_ := Aside0.mk (hb); have n2_ := Aside0.mk (ho); clear BK210; clear HB; clear HO_8; have BK210 := n0_; have HB := n1_; have HO226 := n2_; clear n0_ n1_ n2_; clear ho hb hg hat)); try go_wp2_with (first | (go_at_call 37; (with_reducible refine (impl_power.calls k3 a0 a1_0 t220 _ A27.out).mono ?_); rintro e w' ⟨rfl, ⟨nd, rfl⟩⟩; (try first | exact ⟨rfl, _, World.drewN_drewN _ _ _⟩ | exact ⟨rfl, _, Eq.trans (World.drewN_drewN _ _ _) (congrArg (World.drewN _) (Nat.add_assoc _ _ _))⟩)) | (go_at_call 37; (with_reducible refine (impl_power.calls k3 a0 (wrap64 (a2 - x51_2)) t221 _ A28.out).mono ?_); rintro e w' ⟨rfl, ⟨nd, rfl⟩⟩; (try first | exact ⟨rfl, _, World.drewN_drewN _ _ _⟩ | exact ⟨rfl, _, Eq.trans (World.drewN_drewN _ _ _) (congrArg (World.drewN _) (Nat.add_assoc _ _ _))⟩)) | (go_at_call 39; (with_reducible refine (impl_times.calls k3 a1_1 t221 t218 t222 _ A29.out).mono ?_); rintro e w' ⟨rfl, ⟨nd, rfl⟩⟩; (try first | exact ⟨rfl, _, World.drewN_drewN _ _ _⟩ | exact ⟨rfl, _, Eq.trans (World.drewN_drewN _ _ _) (congrArg (World.drewN _) (Nat.add_assoc _ _ _))⟩)) | (go_at_call 38; (with_reducible refine (impl_mod.calls (wrap64 ((wrap64 (t220 * x63_3)) + t222)) t218 t223 _ A30.out).mono ?_); rintro e w' ⟨rfl, ⟨nd, rfl⟩⟩; (try first | exact ⟨rfl, _, World.drewN_drewN _ _ _⟩ | exact ⟨rfl, _, Eq.trans (World.drewN_drewN _ _ _) (congrArg (World.drewN _) (Nat.add_assoc _ _ _))⟩)) | ((with_reducible refine gate_builtin (b := .append) (xs := #[.tmp 84, .tmp 97]) rfl ?_); at_builtin; refine Kd.R_append k27 (w0 := w) w.heap.size rfl (.tmp 84) (.tmp 97) 24 27 (.agg #[(.int .i64 0), (.int .i64 0), (.int .i64 0)]) 24 rfl Try.underlying24 info27 rfl (by decide) (by omega) u8 x8_3 (⟨wrap64 (a1_0 + x51_2), t223, wrap64 ((wrap64 (a1_2 + a2)) - x51_2)⟩ : S27) [.int .i64 (wrap64 (a1_0 + x51_2)), .int .i64 t223, .int .i64 (wrap64 ((wrap64 (a1_2 + a2)) - x51_2))] (fun k_ => k_ ≠ gb210) (fun _ => False) rfl rfl ?aP (fun _ hk => hk.elim) ?aF ?aO ?aB ?aS ?aL ?_; (case aP => exact k27_mkM _ _ _ (⟨wrap64 (a1_0 + x51_2), t223, wrap64 ((wrap64 (a1_2 + a2)) - x51_2)⟩ : S27)); (case aB => exact (by repeat (first | (with_reducible first | exact HB.out | apply below_alloc | apply pw_below_drewN | apply below_drew1 | refine below_set ?_ GE210.out) | exact HB.out))); (case aF => exact (fun k_ hk => Kd.freshB (g := gb210) (o := .cells #[.int .i64 a1_0, .int .i64 a1_1, .int .i64 a1_2] 27 (0, 0)) (be BK210) k_ hk)); (case aO => exact (by (with_reducible repeat (first | apply Kd.R_alloc | apply Kd.R_drewN | apply Kd.R_drew)); exact HO_8.out)); (case aS => exact (below_size (by repeat (first | (with_reducible first | exact HB.out | apply below_alloc | apply pw_below_drewN | apply below_drew1 | refine below_set ?_ GE210.out) | exact HB.out)))); (case aL => have := LMc31.out; omega); intro v225 w33 ho hb hg hat; rw [← Ny224.out] at ho; have n0_ := Aside0.mk (blk_grown (g := gb210) (o := .cells #[.int .i64 a1_0, .int .i64 a1_1, .int .i64 a1_2] 27 (0, 0)) (be BK210) hg (Kd.R_away HO_8.out (fun _ hk => hk))); have n1_ := Aside0.mk (hb); have n2_ := Aside0.mk (ho); clear BK210; clear HB; clear HO_8; have BK210 := n0_; have HB := n1_; have HO226 := n2_; clear n0_ n1_ n2_; clear ho hb hg hat)))
                go_roundg k3
                case measure => have := HJ5.out; have := HK2.out; have := HK3.out; omega
                case rel => exact ⟨(y224), (wrap64 (x63_3 + 1)), (by first | rfl | (simp; done) | (simp [*]; done)), H', ⟨by have := HJ5.out; have := HK2.out; have := HK3.out; omega⟩, ⟨by (with_reducible repeat (first | apply Kd.R_alloc | apply Kd.R_drewN | apply Kd.R_drew)); exact HO226.out⟩, ⟨be BK210⟩, ⟨by repeat (first | (with_reducible first | exact HB.out | apply below_alloc | apply pw_below_drewN | apply below_drew1 | refine below_set ?_ GE210.out) | exact HB.out)⟩⟩
               ·rw [if_neg c31] at H
                exact absurd H (by simp)
              ·rw [if_neg c26] at H
               have c26b0 : decide (x63_3 < t219) = false := decide_eq_false c26
               clear c26
               have H' := Aside0.mk H
               clear H
               go_wp2
               repeat (go_quiet (fail); try go_wp2)
               go_roundg k3
               case measure => have := HJ5.out; have := HK2.out; have := HK3.out; omega
               case rel => exact ⟨(x8_3), (wrap64 (x51_2 + 1)), (by first | rfl | (simp; done) | (simp [*]; done)), H', ⟨by have := HJ5.out; have := HK2.out; have := HK3.out; omega⟩, ⟨by (with_reducible repeat (first | apply Kd.R_alloc | apply Kd.R_drewN | apply Kd.R_drew)); exact HO_8.out⟩, ⟨be BK210⟩, ⟨by repeat (first | (with_reducible first | exact HB.out | apply below_alloc | apply pw_below_drewN | apply below_drew1 | refine below_set ?_ GE210.out) | exact HB.out)⟩⟩
           ·rw [if_neg c22] at H
            have c22b0 : decide (x51_2 < (wrap64 (a2 + 1))) = false := decide_eq_false c22
            clear c22
            replace H := Option.bind_eq_some_iff.mp H
            obtain ⟨⟨t216, t217⟩, A340, H⟩ := H
            replace H : (some (t217, 0)) = some (r1, r2) := H
            have A34 := Aside0.mk A340
            clear A340
            simp only [Option.some.injEq, Prod.mk.injEq] at H
            obtain ⟨rfl, rfl⟩ := H
            obtain ⟨Ao35, co35, eo35⟩ := Kd.R_slice HO_8.out
            subst eo35
            go_wp2_with (first | (go_at_call 40; (with_reducible refine (impl_Lattice_40.calls k2 (fun k_ => some k_ = (.slice Ao35 x8_2.length co35 : Value).ownBlock) (.slice Ao35 x8_2.length co35) x8_2 0 t216 t217 w _ ?side1 ?side2 A34.out).mono ?_); (case side1 => repeat (first | (with_reducible first | exact HB.out | apply below_alloc | apply pw_below_drewN | apply below_drew1 | refine below_set ?_ GE210.out) | exact HB.out)); (case side2 => exact Kd.R_tight rfl HO_8.out); rintro e w36 ⟨rfl, hy0, hb, hkp⟩; replace BK210 := Aside0.mk (blk_kept (be BK210) hkp (fun hs_ => (fun e_ => (Kd.R_away HO_8.out (fun _ hk => hk)) e_) hs_)); replace HO_8 := Aside0.mk (Kd.R_reok rfl hy0 (fun k_ e_ => HO_8.out.1 k_ e_)); replace HB := Aside0.mk (hb); (try clear hb); (try clear hkp); (try clear hy0)))
            repeat (go_quiet (first | (go_at_call 40; (with_reducible refine (impl_Lattice_40.calls k2 (fun k_ => some k_ = (.slice Ao35 x8_2.length co35 : Value).ownBlock) (.slice Ao35 x8_2.length co35) x8_2 0 t216 t217 w _ ?side1 ?side2 A34.out).mono ?_); (case side1 => repeat (first | (with_reducible first | exact HB.out | apply below_alloc | apply pw_below_drewN | apply below_drew1 | refine below_set ?_ GE210.out) | exact HB.out)); (case side2 => exact Kd.R_tight rfl HO_8.out); rintro e w36 ⟨rfl, hy0, hb, hkp⟩; replace BK210 := Aside0.mk (blk_kept (be BK210) hkp (fun hs_ => (fun e_ => (Kd.R_away HO_8.out (fun _ hk => hk)) e_) hs_)); replace HO_8 := Aside0.mk (Kd.R_reok rfl hy0 (fun k_ e_ => HO_8.out.1 k_ e_)); replace HB := Aside0.mk (hb); (try clear hb); (try clear hkp); (try clear hy0))); try go_wp2_with (first | (go_at_call 40; (with_reducible refine (impl_Lattice_40.calls k2 (fun k_ => some k_ = (.slice Ao35 x8_2.length co35 : Value).ownBlock) (.slice Ao35 x8_2.length co35) x8_2 0 t216 t217 w _ ?side1 ?side2 A34.out).mono ?_); (case side1 => repeat (first | (with_reducible first | exact HB.out | apply below_alloc | apply pw_below_drewN | apply below_drew1 | refine below_set ?_ GE210.out) | exact HB.out)); (case side2 => exact Kd.R_tight rfl HO_8.out); rintro e w36 ⟨rfl, hy0, hb, hkp⟩; replace BK210 := Aside0.mk (blk_kept (be BK210) hkp (fun hs_ => (fun e_ => (Kd.R_away HO_8.out (fun _ hk => hk)) e_) hs_)); replace HO_8 := Aside0.mk (Kd.R_reok rfl hy0 (fun k_ e_ => HO_8.out.1 k_ e_)); replace HB := Aside0.mk (hb); (try clear hb); (try clear hkp); (try clear hy0))))
            go_ret2
            exact ⟨_, by first | rfl | (simp [errW_none, errW_some] <;> rfl) | (simp [*, errW_none, errW_some] <;> rfl), by (with_reducible repeat (first | apply Kd.R_alloc | apply Kd.R_drewN | apply Kd.R_drew)); exact Kd.R_mono HO_8.out (fun _ hk => trivial), by repeat (first | (with_reducible first | exact HB.out | apply below_alloc | apply pw_below_drewN | apply below_drew1 | refine below_set ?_ GE210.out) | exact HB.out)⟩
 ·replace c5 := Bool.eq_false_iff.mpr c5
  subst c5
  have H1 : (some (([] : List (S27)), 1)) = some (r1, r2) := by rw [if_neg (show ¬ (false = true) by decide)] at H; exact H
  clear H
  have H := H1
  clear H1
  simp only [Option.some.injEq, Prod.mk.injEq] at H
  obtain ⟨rfl, rfl⟩ := H
  go_enter Try.func7, Try.ntmps7
  go_wp2_with (first | ((with_reducible refine gate_dst (N := 4) rfl ?_); refine bx (N := 4) (cs := #[.int .i64 a1_0, .int .i64 a1_1, .int .i64 a1_2]) (t := 27) ?_; intro gb210 hg w37 hbox hb; have BK210 := Aside0.mk (hbox); have GW210 := sg hg; have GE210 := sg hg; replace HB := bs hb; clear hb hbox hg; obtain ⟨hcz38_0, hcz38_1, hcz38_2, hfz38_0, hfz38_1, hfz38_2⟩ := cq3 BK210) | (go_at_call 18; (with_reducible refine (impl_IsLattice.calls k a0 a1_0 a1_1 a1_2 false _ A4.out).mono ?_); rintro e w39 ⟨rfl, hb⟩; replace BK210 := bb BK210 hb; replace HB := bs hb; (try clear hb); (try clear hb2); (try clear hk); (try clear hi)))
  repeat (go_quiet (first | ((with_reducible refine gate_dst (N := 4) rfl ?_); refine bx (N := 4) (cs := #[.int .i64 a1_0, .int .i64 a1_1, .int .i64 a1_2]) (t := 27) ?_; intro gb210 hg w37 hbox hb; have BK210 := Aside0.mk (hbox); have GW210 := sg hg; have GE210 := sg hg; replace HB := bs hb; clear hb hbox hg; obtain ⟨hcz38_0, hcz38_1, hcz38_2, hfz38_0, hfz38_1, hfz38_2⟩ := cq3 BK210) | (go_at_call 18; (with_reducible refine (impl_IsLattice.calls k a0 a1_0 a1_1 a1_2 false _ A4.out).mono ?_); rintro e w39 ⟨rfl, hb⟩; replace BK210 := bb BK210 hb; replace HB := bs hb; (try clear hb); (try clear hb2); (try clear hk); (try clear hi))); try go_wp2_with (first | ((with_reducible refine gate_dst (N := 4) rfl ?_); refine bx (N := 4) (cs := #[.int .i64 a1_0, .int .i64 a1_1, .int .i64 a1_2]) (t := 27) ?_; intro gb210 hg w37 hbox hb; have BK210 := Aside0.mk (hbox); have GW210 := sg hg; have GE210 := sg hg; replace HB := bs hb; clear hb hbox hg; obtain ⟨hcz38_0, hcz38_1, hcz38_2, hfz38_0, hfz38_1, hfz38_2⟩ := cq3 BK210) | (go_at_call 18; (with_reducible refine (impl_IsLattice.calls k a0 a1_0 a1_1 a1_2 false _ A4.out).mono ?_); rintro e w39 ⟨rfl, hb⟩; replace BK210 := bb BK210 hb; replace HB := bs hb; (try clear hb); (try clear hb2); (try clear hk); (try clear hi))))
  go_ret2
  exact ⟨_, by first | rfl | (simp [errW_none, errW_some] <;> rfl) | (simp [*, errW_none, errW_some] <;> rfl), by first | exact Kd.R_nil _ _ _ _ _ | exact Kd.N_nil _ _ _ _ _ | exact Kd.V_nil _ _ _ _ _ | exact Kd.Q_nil _ _ _ _ _ | exact Kd.S_nil _ _ _ _ _, by repeat (first | (with_reducible first | exact HB.out | apply below_alloc | apply pw_below_drewN | apply below_drew1 | refine below_set ?_ GE210.out) | exact HB.out)⟩

end Go.Proofs.Ytkfodnlogflcpaa.PFnExactLatticesInside

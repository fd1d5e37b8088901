-- Printed by the kit's print and repaired by a program of this session.
import Derived.Test.YtkfodnlogflcpaaPFnLatticesx0
import Derived.Test.YtkfodnlogflcpaaPFnLatticesx3
import Derived.Test.YtkfodnlogflcpaaPFnLatticesx6
import Derived.Test.YtkfodnlogflcpaaPFnLatticesx11
import Derived.Test.YtkfodnlogflcpaaPFnLatticesx16
namespace Go.Proofs.Ytkfodnlogflcpaa.PFnLattices
open Go.RowKit Go.Proofs.YtkfodnlogflcpaaW.PrintWords Go.Proofs.YtkfodnlogflcpaaW.PrintLast Go.Proofs.YtkfodnlogflcpaaW.PrintMore
attribute [local go_sem] max2_int min2_int max_two min_two max_three min_three max_four min_four
set_option linter.unusedVariables false
set_option linter.unusedSimpArgs false

/-! ### spec_LatticesInside: function 5 -/
mutual
def spec_LatticesInside.l0 : Nat → Int → Int → Int → Int → Int → Int → Int → Option ((List (S27)) × Int)
 | 0, _, _, _, _, _, _, _ => none
 | k + 1, x0, x2, x9, x10, x626000, x626001, x626002 => if x10 ≤ x2 then ((spec_l01Power.f k x0 x10).bind fun t631 => (spec_LatticesInside.l0 k x0 x2 (wrap64 (x9 + t631)) (wrap64 (x10 + 1)) x626000 x626001 x626002)) else (if x9 > 100 then (some (([] : List (S27)), 3)) else (if (wrap64 (x626000 + x2)) > 12 then (some (([] : List (S27)), 3)) else (if (wrap64 (x626002 + x2)) > 12 then (some (([] : List (S27)), 3)) else (spec_LatticesInside.l1 k x0 x2 (([] : List (S27))) 0 x626000 x626001 x626002))))
def spec_LatticesInside.l1 : Nat → Int → Int → List (S27) → Int → Int → Int → Int → Option ((List (S27)) × Int)
 | 0, _, _, _, _, _, _, _ => none
 | k + 1, x0, x2, x11, x12, x626000, x626001, x626002 => if x12 ≤ x2 then ((spec_l01Power.f k x0 (wrap64 (x626000 + x12))).bind fun t635 => (spec_LatticesInside.l2 k x0 x2 x11 x12 (wrap64 (x626000 + x12)) t635 (([] : List Int)) 0 x626000 x626001 x626002)) else (some (x11, 0))
def spec_LatticesInside.l2 : Nat → Int → Int → List (S27) → Int → Int → Int → List Int → Int → Int → Int → Int → Option ((List (S27)) × Int)
 | 0, _, _, _, _, _, _, _, _, _, _, _ => none
 | k + 1, x0, x2, x11, x12, x13, x14, x15, x16, x626000, x626001, x626002 => (spec_l01Power.f k x0 x12).bind fun t639 => (if x16 < t639 then ((spec_l01Power.f k x0 (wrap64 (x2 - x12))).bind fun t640 => ((spec_l01MulMod.f x626001 t640 x14).bind fun t641 => ((spec_l01Power.f k x0 x626000).bind fun t642 => (if x14 = 0 then (none) else (if x15.length < 17592186044416 then (spec_LatticesInside.l2 k x0 x2 x11 x12 x13 x14 (x15 ++ [Int.tmod (wrap64 (t641 + (wrap64 (x16 * t642)))) x14]) (wrap64 (x16 + 1)) x626000 x626001 x626002) else (none)))))) else ((spec_l03Sorted.f k x15).bind fun t646 => (spec_LatticesInside.l3 k x0 x2 x11 x12 x13 t646 0 x626000 x626001 x626002)))
def spec_LatticesInside.l3 : Nat → Int → Int → List (S27) → Int → Int → List Int → Int → Int → Int → Int → Option ((List (S27)) × Int)
 | 0, _, _, _, _, _, _, _, _, _, _ => none
 | k + 1, x0, x2, x11, x12, x13, x15, x18, x626000, x626001, x626002 => if x18 < (x15.length : Int) then (if 0 ≤ x18 then (if x11.length < 5864062014805 then (spec_LatticesInside.l3 k x0 x2 (x11 ++ [(⟨x13, rd x15 x18, wrap64 ((wrap64 (x626002 + x2)) - x12)⟩ : S27)]) x12 x13 x15 (wrap64 (x18 + 1)) x626000 x626001 x626002) else (none)) else (none)) else (spec_LatticesInside.l1 k x0 x2 x11 (wrap64 (x12 + 1)) x626000 x626001 x626002)
end
def spec_LatticesInside.f (k : Nat) (a0 : Int) (a1_0 : Int) (a1_1 : Int) (a1_2 : Int) (a2 : Int) : Option ((List (S27)) × Int) := (spec_l03Code.f k a0 (([(⟨a1_0, a1_1, a1_2⟩ : S27)] : List (S27)))).bind fun t629 => (if t629 = 0 then ((spec_l01In.f a2 0 4).bind fun t630 => (if t630 = true then (spec_LatticesInside.l0 k a0 a2 0 0 a1_0 a1_1 a1_2) else (some (([] : List (S27)), 2)))) else (some (([] : List (S27)), t629)))
def spec_LatticesInside.T25 : Bool × List (List Nat × List Nat) := (true, [([], []), ([0], [0]), ([], []), ([], []), ([], []), ([3, 4], [3, 4]), ([2, 5], [2, 5]), ([], []), ([1, 6, 7, 6], [1, 6, 7]), ([], []), ([], []), ([], []), ([11], [11]), ([10, 12, 8], [10, 12]), ([9, 13], [9, 13]), ([8, 14], [8, 14]), ([], []), ([15, 16], [15, 16]), ([17, 13, 0, 1, 2, 3, 4, 5, 6, 7, 8, 9, 10, 11, 12, 13, 14, 15, 16, 17], [17])])
def spec_LatticesInside.B25 : List Nat := [0, 1, 0, 0, 0, 24, 60, 0, 255, 0, 0, 0, 2048, 7679, 16383, 32767, 0, 131071, 262143]
theorem spec_LatticesInside.tab25 : rtab .any (opsOf Try.f5 25) = spec_LatticesInside.T25 := by kernel_rfl
theorem spec_LatticesInside.bits25 : waitsOk spec_LatticesInside.T25.2 spec_LatticesInside.B25 = true := by kernel_rfl
def spec_LatticesInside.T31 : Bool × List (List Nat × List Nat) := (true, [([], []), ([], []), ([], []), ([], []), ([2, 3], [2, 3]), ([4], [4]), ([], []), ([6], [6]), ([], []), ([7, 8], [7, 8]), ([], []), ([9, 10], [9, 10]), ([1, 5, 11], [1, 5, 11]), ([12], [12]), ([0, 13], [0, 13]), ([14, 14, 0, 1, 2, 3, 4, 5, 6, 7, 8, 9, 10, 11, 12, 13, 14], [0, 14])])
def spec_LatticesInside.B31 : List Nat := [0, 0, 0, 0, 12, 28, 0, 64, 0, 448, 0, 1984, 4094, 8190, 16383, 32767]
theorem spec_LatticesInside.tab31 : rtab .any (opsOf Try.f5 31) = spec_LatticesInside.T31 := by kernel_rfl
theorem spec_LatticesInside.bits31 : waitsOk spec_LatticesInside.T31.2 spec_LatticesInside.B31 = true := by kernel_rfl
set_option maxHeartbeats 8000000 in
set_option maxRecDepth 100000 in
theorem spec_LatticesInside.calls (k : Nat) (a0 : Int) (a1_0 : Int) (a1_1 : Int) (a1_2 : Int) (a2 : Int) (r1 : List (S27)) (r2 : Int) (w : World) (h : spec_LatticesInside.f k a0 a1_0 a1_1 a1_2 a2 = some (r1, r2)) :
  Calls Try.prog 5 #[.int .i64 a0, .agg #[.int .i64 a1_0, .int .i64 a1_1, .int .i64 a1_2], .int .i64 a2] w fun e w' => ∃ v0_ : Value, e = .returned (.tuple #[v0_, .int .i64 r2]) ∧ Kd.R k27 27 w' w.heap.size (fun _ => True) v0_ r1 ∧ Below w.heap.size w w' := by
 have hu27 := Try.underlying27
 have HB := Aside0.mk (Below.refl w.heap.size w)
 unfold spec_LatticesInside.f at h
 have H := h
 clear h
 obtain ⟨y626, hy626⟩ : ∃ y_ : List (S27), y_ = (([(⟨a1_0, a1_1, a1_2⟩ : S27)] : List (S27))) := ⟨_, rfl⟩
 replace H : ((spec_l03Code.f k a0 y626).bind fun t629 => (if t629 = 0 then ((spec_l01In.f a2 0 4).bind fun t630 => (if t630 = true then (spec_LatticesInside.l0 k a0 a2 0 0 a1_0 a1_1 a1_2) else (some (([] : List (S27)), 2)))) else (some (([] : List (S27)), t629)))) = some (r1, r2) := by first | exact hy626 ▸ H | exact H
 have Ny626 := Aside0.mk hy626
 clear hy626
 replace H := zi H
 obtain ⟨t629, A4, H⟩ := H
 try dsimp only at H
 replace H := ii H
 rcases H with ⟨c5, H⟩ | ⟨c5, H⟩
 ·obtain ⟨c5b0, c5b1⟩ := zz c5
  clear c5
  replace H := zi H
  obtain ⟨t630, A6, H⟩ := H
  try dsimp only at H
  by_cases c7 : t630 = true
  ·subst c7
   rw [if_pos rfl] at H
   have H' := Aside0.mk H
   clear H
   go_enter Try.func5, Try.ntmps5
   go_wp2_with (first | ((with_reducible refine zg 4 rfl ?_); refine z3 4 27 a1_0 a1_1 a1_2 ?_; intro gb625 hg w8 BK625 hb; have GW625 := sg hg; replace HB := bs hb; clear hb hg; obtain ⟨hcz9_0, hcz9_1, hcz9_2, hfz9_0, hfz9_1, hfz9_2⟩ := cq3 BK625) | ((with_reducible refine zg 21 rfl ?_); refine Kd.R_lit k27 _ 27 ?hg (N := 21) ?hd (xs := ([(⟨a1_0, a1_1, a1_2⟩ : S27)] : List (S27))) (inner := [.int .i64 a1_0, .int .i64 a1_1, .int .i64 a1_2]) (ok := fun _ => True) (okp := fun _ => True) ?hr ?hp (fun _ hk => hk) trivial (Below.refl _ _) (Nat.le_refl _) (by simp) ?_; (case hd => rfl); (case hg => rfl); (case hr => first | (go_simp; done) | (go_simp; rfl)); (case hp => exact (Reps.c3 (show Kd.M k27 _ _ _ (⟨a1_0, a1_1, a1_2⟩ : S27) [.int .i64 a1_0, .int .i64 a1_1, .int .i64 a1_2] from (k27_mkM _ _ _ (⟨a1_0, a1_1, a1_2⟩ : S27) )) (Reps.none _ _))); intro v627 w10 ho11 hb hg_ hnew_; clear hg_ hnew_; (first | rw [← Ny626.out] at ho11 | (simp only [Int.reduceToNat] at ho11; rw [← Ny626.out] at ho11)); have HO628 := Aside0.mk (Kd.R_lower (Kd.R_newB ho11 (g := gb625) (o := .cells #[.int .i64 a1_0, .int .i64 a1_1, .int .i64 a1_2] 27 (0, 0)) (be BK625)) (below_size (bl))); replace BK625 := bb BK625 hb; replace HB := bs hb; clear hb ho11; obtain ⟨Ao12, co12, eo12⟩ := Kd.R_slice HO628.out; subst eo12) | ((with_reducible refine zf 32 rfl ?_); refine g1 (some 22) Try.func32 #[.int .i64 a0, .slice Ao12 y626.length co12] ?_; (with_reducible refine (spec_l03Code.calls k a0 _ _ y626 t629 _ ?side1 ?side2 A4.out).mono ?_); (case side1 => repeat (first | exact (Kd.R_reads' HO628.out).2.2 | (with_reducible refine Kd.C_alloc ?_ _) | (with_reducible refine Kd.C_drewN ?_ _) | (with_reducible refine Kd.C_drew ?_))); (case side2 => exact (Kd.R_reads' HO628.out).2.1); rintro e w13 ⟨rfl, hb⟩; refine ⟨_, rfl, ?_⟩; replace HO628 := Aside0.mk (Kd.R_below (by (with_reducible repeat (first | apply Kd.R_alloc | apply Kd.R_drewN | apply Kd.R_drew)); exact HO628.out) hb); replace BK625 := bb BK625 hb; replace HB := bs hb; (try clear hb)) | ((with_reducible refine zf 33 rfl ?_); refine g1 (some 27) Try.func33 #[.int .i64 a2, .int .i64 0, .int .i64 4] ?_; (with_reducible refine (spec_l01In.calls a2 0 4 true _ A6.out).mono ?_); rintro e w' ⟨rfl, ⟨nd, rfl⟩⟩; refine ⟨_, rfl, ?_⟩))
   go_loopg [9, 10] k (fun kq v9 v10 w' => ∃ (x9_1 : Int) (x10_1 : Int), v9 = .int .i64 x9_1 ∧ v10 = .int .i64 x10_1 ∧ Aside0 (spec_LatticesInside.l0 kq a0 a2 x9_1 x10_1 a1_0 a1_1 a1_2 = some (r1, r2)) ∧ Aside0 (kq ≤ k) ∧ Aside0 (w'.heap[gb625]? = some (.cells #[.int .i64 a1_0, .int .i64 a1_1, .int .i64 a1_2] 27 (0, 0))) ∧ Aside0 (Below w.heap.size w w'))
   case atStart => exact ⟨(0), (0), (by first | rfl | (simp; done) | (simp [*]; done)), (by first | rfl | (simp; done) | (simp [*]; done)), H', ⟨Nat.le_refl _⟩, ⟨be BK625⟩, ⟨bl⟩⟩
   case round =>
    clear H'
    obtain ⟨x9_1, x10_1, rfl, rfl, HA, HK1, BK625, HB⟩ := hrel
    cases gk with
    | zero => exact absurd HA.out (by simp [spec_LatticesInside.l0])
    | succ k1 =>
     have H := HA.out
     clear HA
     simp only [spec_LatticesInside.l0] at H
     replace H := ii H
     rcases H with ⟨c14, H⟩ | ⟨c14, H⟩
     ·have c14b0 := decide_eq_true c14
      clear c14
      replace H := zi H
      obtain ⟨t631, A15, H⟩ := H
      try dsimp only at H
      have H' := Aside0.mk H
      clear H
      go_wp2_with (first | ((with_reducible refine zf 34 rfl ?_); refine g1 (some 37) Try.func34 #[.int .i64 a0, .int .i64 x10_1] ?_; (with_reducible refine (spec_l01Power.calls k1 a0 x10_1 t631 _ A15.out).mono ?_); rintro e w' ⟨rfl, ⟨nd, rfl⟩⟩; refine ⟨_, rfl, ?_⟩))
      go_roundg k1
      case measure => have := HK1.out; omega
      case rel => exact ⟨(wrap64 (x9_1 + t631)), (wrap64 (x10_1 + 1)), (by first | rfl | (simp; done) | (simp [*]; done)), (by first | rfl | (simp; done) | (simp [*]; done)), H', ⟨by have := HK1.out; omega⟩, ⟨be BK625⟩, ⟨bl⟩⟩
     ·have c14b0 := decide_eq_false c14
      clear c14
      replace H := ii H
      rcases H with ⟨c16, H⟩ | ⟨c16, H⟩
      ·have c16b0 := decide_eq_true c16
       clear c16
       simp only [Option.some.injEq, Prod.mk.injEq] at H
       obtain ⟨rfl, rfl⟩ := H
       go_wp2
       go_ret2
       exact ⟨_, er, by first | exact Kd.R_nil _ _ _ _ _ | exact Kd.N_nil _ _ _ _ _ | exact Kd.V_nil _ _ _ _ _ | exact Kd.Q_nil _ _ _ _ _ | exact Kd.S_nil _ _ _ _ _, bl⟩
      ·have c16b0 := decide_eq_false c16
       clear c16
       replace H := ii H
       rcases H with ⟨c17, H⟩ | ⟨c17, H⟩
       ·have c17b0 := decide_eq_true c17
        clear c17
        simp only [Option.some.injEq, Prod.mk.injEq] at H
        obtain ⟨rfl, rfl⟩ := H
        obtain ⟨hcz18_0, hcz18_1, hcz18_2, hfz18_0, hfz18_1, hfz18_2⟩ := cq3 BK625
        go_wp2
        go_ret2
        exact ⟨_, er, by first | exact Kd.R_nil _ _ _ _ _ | exact Kd.N_nil _ _ _ _ _ | exact Kd.V_nil _ _ _ _ _ | exact Kd.Q_nil _ _ _ _ _ | exact Kd.S_nil _ _ _ _ _, bl⟩
       ·have c17b0 := decide_eq_false c17
        clear c17
        replace H := ii H
        rcases H with ⟨c19, H⟩ | ⟨c19, H⟩
        ·have c19b0 := decide_eq_true c19
         clear c19
         simp only [Option.some.injEq, Prod.mk.injEq] at H
         obtain ⟨rfl, rfl⟩ := H
         obtain ⟨hcz20_0, hcz20_1, hcz20_2, hfz20_0, hfz20_1, hfz20_2⟩ := cq3 BK625
         go_wp2
         go_ret2
         exact ⟨_, er, by first | exact Kd.R_nil _ _ _ _ _ | exact Kd.N_nil _ _ _ _ _ | exact Kd.V_nil _ _ _ _ _ | exact Kd.Q_nil _ _ _ _ _ | exact Kd.S_nil _ _ _ _ _, bl⟩
        ·have c19b0 := decide_eq_false c19
         clear c19
         obtain ⟨y632, hy632⟩ : ∃ y_ : List (S27), y_ = (([] : List (S27))) := ⟨_, rfl⟩
         replace H : (spec_LatticesInside.l1 k1 a0 a2 y632 0 a1_0 a1_1 a1_2) = some (r1, r2) := by first | exact hy632 ▸ H | exact H
         have Ny632 := Aside0.mk hy632
         clear hy632
         have H' := Aside0.mk H
         clear H
         obtain ⟨hcz21_0, hcz21_1, hcz21_2, hfz21_0, hfz21_1, hfz21_2⟩ := cq3 BK625
         go_wp2_with (first | ((with_reducible refine zg 55 rfl ?_); refine Kd.R_lit k27 _ 27 ?hg (N := 55) ?hd (xs := ([] : List (S27))) (inner := []) (ok := fun _ => True) (okp := fun _ => True) ?hr ?hp (fun _ hk => hk) trivial (Below.refl _ _) (Nat.le_refl _) (by simp) ?_; (case hd => rfl); (case hg => rfl); (case hr => first | (go_simp; done) | (go_simp; rfl)); (case hp => exact (Reps.none _ _)); intro v633 w22 ho23 hb hg_ hnew_; clear hg_ hnew_; (first | rw [← Ny632.out] at ho23 | (simp only [Int.reduceToNat] at ho23; rw [← Ny632.out] at ho23)); have HO634 := Aside0.mk (Kd.R_lower (Kd.R_newB ho23 (g := gb625) (o := .cells #[.int .i64 a1_0, .int .i64 a1_1, .int .i64 a1_2] 27 (0, 0)) (be BK625)) (below_size (bl))); replace BK625 := bb BK625 hb; replace HB := bs hb; clear hb ho23))
         go_loopg [11, 12] k1 (fun kq v11 v12 w' => ∃ (x11_2 : List (S27)) (x12_2 : Int), v12 = .int .i64 x12_2 ∧ Aside0 (spec_LatticesInside.l1 kq a0 a2 x11_2 x12_2 a1_0 a1_1 a1_2 = some (r1, r2)) ∧ Aside0 (kq ≤ k1) ∧ Aside0 (Kd.R k27 27 w' w.heap.size (fun k_ => k_ ≠ gb625) v11 x11_2) ∧ Aside0 (w'.heap[gb625]? = some (.cells #[.int .i64 a1_0, .int .i64 a1_1, .int .i64 a1_2] 27 (0, 0))) ∧ Aside0 (Below w.heap.size w w'))
         case atStart => exact ⟨(y632), (0), (by first | rfl | (simp; done) | (simp [*]; done)), H', ⟨Nat.le_refl _⟩, ⟨by (with_reducible repeat (first | apply Kd.R_alloc | apply Kd.R_drewN | apply Kd.R_drew)); exact Kd.R_mono HO634.out (fun _ hk => hk.2)⟩, ⟨be BK625⟩, ⟨bl⟩⟩
         case round =>
          clear H'
          obtain ⟨x11_2, x12_2, rfl, HA, HK2, HO_11, BK625, HB⟩ := hrel
          cases gk with
          | zero => exact absurd HA.out (by simp [spec_LatticesInside.l1])
          | succ k2 =>
           have H := HA.out
           clear HA
           simp only [spec_LatticesInside.l1] at H
           replace H := ii H
           rcases H with ⟨c24, H⟩ | ⟨c24, H⟩
           ·have c24b0 := decide_eq_true c24
            clear c24
            replace H := zi H
            obtain ⟨t635, A25, H⟩ := H
            try dsimp only at H
            obtain ⟨y636, hy636⟩ : ∃ y_ : List Int, y_ = (([] : List Int)) := ⟨_, rfl⟩
            replace H : (spec_LatticesInside.l2 k2 a0 a2 x11_2 x12_2 (wrap64 (a1_0 + x12_2)) t635 y636 0 a1_0 a1_1 a1_2) = some (r1, r2) := by first | exact hy636 ▸ H | exact H
            have Ny636 := Aside0.mk hy636
            clear hy636
            have H' := Aside0.mk H
            clear H
            obtain ⟨hcz26_0, hcz26_1, hcz26_2, hfz26_0, hfz26_1, hfz26_2⟩ := cq3 BK625
            go_wp2_with (first | ((with_reducible refine zf 34 rfl ?_); refine g1 (some 67) Try.func34 #[.int .i64 a0, .int .i64 (wrap64 (a1_0 + x12_2))] ?_; (with_reducible refine (spec_l01Power.calls k2 a0 (wrap64 (a1_0 + x12_2)) t635 _ A25.out).mono ?_); rintro e w' ⟨rfl, ⟨nd, rfl⟩⟩; refine ⟨_, rfl, ?_⟩) | ((with_reducible refine zg 68 rfl ?_); refine Kd.R_lit (Kd.int .i64) _ 2 ?hg (N := 68) ?hd (xs := ([] : List Int)) (inner := []) (ok := fun _ => True) (okp := fun _ => True) ?hr ?hp (fun _ hk => hk) trivial (Below.refl _ _) (Nat.le_refl _) (by simp) ?_; (case hd => rfl); (case hg => rfl); (case hr => first | (go_simp; done) | (go_simp; rfl)); (case hp => exact (Reps.none _ _)); intro v637 w27 ho28 hb hg_ hnew_; clear hg_ hnew_; (first | rw [← Ny636.out] at ho28 | (simp only [Int.reduceToNat] at ho28; rw [← Ny636.out] at ho28)); have HO638 := Aside0.mk (Kd.R_lower ho28 (below_size (bl))); replace HO_11 := Aside0.mk (Kd.R_below (by (with_reducible repeat (first | apply Kd.R_alloc | apply Kd.R_drewN | apply Kd.R_drew)); exact HO_11.out) hb); replace BK625 := bb BK625 hb; replace HB := bs hb; clear hb ho28))
            go_loopg [15, 16] k2 (fun kq v15 v16 w' => ∃ (x15_3 : List Int) (x16_3 : Int), v16 = .int .i64 x16_3 ∧ Aside0 (spec_LatticesInside.l2 kq a0 a2 x11_2 x12_2 (wrap64 (a1_0 + x12_2)) t635 x15_3 x16_3 a1_0 a1_1 a1_2 = some (r1, r2)) ∧ Aside0 (kq ≤ k2) ∧ Aside0 (Kd.R k27 27 w' w.heap.size (fun k_ => k_ ≠ gb625) u11 x11_2) ∧ Aside0 (Kd.R (Kd.int .i64) 2 w' w.heap.size (fun _ => True) v15 x15_3) ∧ Aside0 (w'.heap[gb625]? = some (.cells #[.int .i64 a1_0, .int .i64 a1_1, .int .i64 a1_2] 27 (0, 0))) ∧ Aside0 (Below w.heap.size w w'))
            case atStart => exact ⟨(y636), (0), (by first | rfl | (simp; done) | (simp [*]; done)), H', ⟨Nat.le_refl _⟩, ⟨by (with_reducible repeat (first | apply Kd.R_alloc | apply Kd.R_drewN | apply Kd.R_drew)); exact HO_11.out⟩, ⟨by (with_reducible repeat (first | apply Kd.R_alloc | apply Kd.R_drewN | apply Kd.R_drew)); exact HO638.out⟩, ⟨be BK625⟩, ⟨bl⟩⟩
            case round =>
             clear H'
             obtain ⟨x15_3, x16_3, rfl, HA, HK3, HO_11, HO_15, BK625, HB⟩ := hrel
             cases gk with
             | zero => exact absurd HA.out (by simp [spec_LatticesInside.l2])
             | succ k3 =>
              have H := HA.out
              clear HA
              simp only [spec_LatticesInside.l2] at H
              replace H := zi H
              obtain ⟨t639, A29, H⟩ := H
              try dsimp only at H
              replace H := ii H
              rcases H with ⟨c30, H⟩ | ⟨c30, H⟩
              ·have c30b0 := decide_eq_true c30
               clear c30
               replace H := zi H
               obtain ⟨t640, A31, H⟩ := H
               try dsimp only at H
               replace H := zi H
               obtain ⟨t641, A32, H⟩ := H
               try dsimp only at H
               replace H := zi H
               obtain ⟨t642, A33, H⟩ := H
               try dsimp only at H
               replace H := ii H
               rcases H with ⟨c34, H⟩ | ⟨c34, H⟩
               ·exact absurd H (by simp)
               ·obtain ⟨c34b0, c34b1⟩ := zy c34
                replace H := ii H
                rcases H with ⟨c35, H⟩ | ⟨c35, H⟩
                ·have LMc35 := Aside0.mk c35
                 clear c35
                 obtain ⟨y643, hy643⟩ : ∃ y_ : List Int, y_ = (x15_3 ++ [Int.tmod (wrap64 (t641 + (wrap64 (x16_3 * t642)))) t635]) := ⟨_, rfl⟩
                 replace H : (spec_LatticesInside.l2 k3 a0 a2 x11_2 x12_2 (wrap64 (a1_0 + x12_2)) t635 y643 (wrap64 (x16_3 + 1)) a1_0 a1_1 a1_2) = some (r1, r2) := by first | exact hy643 ▸ H | exact H
                 have Ny643 := Aside0.mk hy643
                 clear hy643
                 have H' := Aside0.mk H
                 clear H
                 try go_wp2_with (first | ((with_reducible refine zf 34 rfl ?_); refine g1 (some 72) Try.func34 #[.int .i64 a0, .int .i64 x12_2] ?_; (with_reducible refine (spec_l01Power.calls k3 a0 x12_2 t639 _ A29.out).mono ?_); rintro e w' ⟨rfl, ⟨nd, rfl⟩⟩; refine ⟨_, rfl, ?_⟩))
                 (try (rw [drewN_self wr]; generalize hq_ : World.drewN wr _ = wr; have n0_ : Aside0 (Kd.R k27 27 wr w.heap.size (fun k_ => k_ ≠ gb625) u11 x11_2) := ⟨by rw [← hq_]; exact (by (with_reducible repeat (first | apply Kd.R_alloc | apply Kd.R_drewN | apply Kd.R_drew)); exact HO_11.out)⟩; have n1_ : Aside0 (Kd.R (Kd.int .i64) 2 wr w.heap.size (fun _ => True) u15 x15_3) := ⟨by rw [← hq_]; exact (by (with_reducible repeat (first | apply Kd.R_alloc | apply Kd.R_drewN | apply Kd.R_drew)); exact HO_15.out)⟩; have n2_ : Aside0 (wr.heap[gb625]? = some (.cells #[.int .i64 a1_0, .int .i64 a1_1, .int .i64 a1_2] 27 (0, 0))) := ⟨by rw [← hq_]; exact (be BK625)⟩; have n3_ : Aside0 (Below w.heap.size w wr) := ⟨by rw [← hq_]; exact (bl)⟩; clear HO_11 HO_15 BK625 HB hq_; have HO_11 := n0_; have HO_15 := n1_; have BK625 := n2_; have HB := n3_; clear n0_ n1_ n2_ n3_))
                 replace HO_11 := Aside0.mk (Kd.R_drew HO_11.out)
                 replace HO_15 := Aside0.mk (Kd.R_drew HO_15.out)
                 replace BK625 := Aside0.mk (blk_drew BK625.out)
                 replace HB := Aside0.mk (below_drew1 HB.out)
                 refine sw 19 (fun w' => w'.cell? ⟨gb625, 0, none⟩ = some (.int .i64 a1_0) ∧ w'.cell? ⟨gb625, 1, none⟩ = some (.int .i64 a1_1) ∧ w'.cell? ⟨gb625, 2, none⟩ = some (.int .i64 a1_2)) spec_LatticesInside.tab25 spec_LatticesInside.bits25 (e3 BK625) (fun hHeld HT_ HW_ => ?_)
                 generalize wr.drew = w36 at HO_11 HO_15 BK625 HB hHeld ⊢
                 refine pu 0 (some 76) (tA 19 1) HT_ ?_
                 refine pu 2 (some 78) (tA 19 5) HT_ ?_
                 refine pu 3 (some 79) (tA 19 13) HT_ ?_
                 refine pu 4 (some 80) (tA 19 29) HT_ ?_
                 refine pu 5 (some 81) (tA 19 61) HT_ ?_
                 refine pu 7 (some 83) (tA 19 189) HT_ ?_
                 refine pu 9 (some 85) (tA 19 701) HT_ ?_
                 refine pu 10 (some 86) (tA 19 1725) HT_ ?_
                 refine pu 11 (some 87) (tA 19 3773) HT_ ?_
                 refine pu 16 (some 92) (tA 19 69309) HT_ ?_
                 refine tk3 1 (some 77) (tA 19 69311) HT_ HW_ hHeld ?_
                 refine tk3 12 (some 88) (tA 19 73407) HT_ HW_ hHeld ?_
                 refine o1 6 (some 82) (tA 19 73471) HT_ (fun K hK => ?_)
                 refine gs Try.func34 #[.int .i64 a0, .int .i64 (wrap64 (a2 - x12_2))] ?_
                 with_reducible refine (spec_l01Power.calls k3 a0 (wrap64 (a2 - x12_2)) t640 _ A31.out).mono ?_
                 rintro e w' ⟨rfl, ⟨nd, rfl⟩⟩
                 refine ⟨_, rfl, ?_⟩
                 refine hK.out _ _ (e3 BK625) (fun hHeld => ?_)
                 clear hK K
                 refine nm (some 82) ?_
                 refine o1 8 (some 84) (tA 19 73727) HT_ (fun K hK => ?_)
                 refine gs Try.func35 #[.int .i64 a1_1, .int .i64 t640, .int .i64 t635] ?_
                 with_reducible refine (spec_l01MulMod.calls a1_1 t640 t635 t641 _ A32.out).mono ?_
                 rintro e w' ⟨rfl, ⟨nd, rfl⟩⟩
                 refine ⟨_, rfl, ?_⟩
                 refine hK.out _ _ (e3 BK625) (fun hHeld => ?_)
                 clear hK K
                 refine nm (some 84) ?_
                 refine o1 13 (some 89) (tA 19 81919) HT_ (fun K hK => ?_)
                 refine gs Try.func34 #[.int .i64 a0, .int .i64 a1_0] ?_
                 with_reducible refine (spec_l01Power.calls k3 a0 a1_0 t642 _ A33.out).mono ?_
                 rintro e w' ⟨rfl, ⟨nd, rfl⟩⟩
                 refine ⟨_, rfl, ?_⟩
                 refine hK.out _ _ (e3 BK625) (fun hHeld => ?_)
                 clear hK K
                 refine nm (some 89) ?_
                 refine pu 14 (some 90) (tA 19 98303) HT_ ?_
                 refine pu 15 (some 91) (tA 19 131071) HT_ ?_
                 refine pu 17 (some 93) (tA 19 262143) HT_ ?_
                 refine pu 18 (some 17) (tA 19 524287) HT_ ?_
                 refine done_ (done_of HT_.out (by kernel_rfl)) ?_
                 try go_wp2_with (first | ((with_reducible refine gate_builtin (b := .append) (xs := #[.tmp 94, .tmp 96]) rfl ?_); at_builtin; refine Kd.R_append (Kd.int .i64) (w0 := w) w.heap.size rfl (.tmp 94) (.tmp 96) 63 2 (.int .i64 0) 8 rfl Try.underlying63 info2 rfl (by decide) (by omega) u15 x15_3 (Int.tmod (wrap64 (t641 + (wrap64 (x16_3 * t642)))) t635) [.int .i64 (Int.tmod (wrap64 (t641 + (wrap64 (x16_3 * t642)))) t635)] (fun _ => True) (fun _ => False) rfl rfl ?aP (fun _ hk => hk.elim) ?aF ?aO ?aB ?aS ?aL ?_; (case aP => exact rfl); (case aB => exact (bl)); (case aF => exact (fun _ _ => trivial)); (case aO => exact (by (with_reducible repeat (first | apply Kd.R_alloc | apply Kd.R_drewN | apply Kd.R_drew)); exact HO_15.out)); (case aS => exact (below_size (bl))); (case aL => have := LMc35.out; omega); intro v644 w37 ho hb hg hat; rw [← Ny643.out] at ho; have n0_ := Aside0.mk (Kd.R_over' (by (with_reducible repeat (first | apply Kd.R_alloc | apply Kd.R_drewN | apply Kd.R_drew)); exact HO_11.out) (Kd.R_typed (by (with_reducible repeat (first | apply Kd.R_alloc | apply Kd.R_drewN | apply Kd.R_drew)); exact HO_15.out)) (by decide) hg); have n1_ := Aside0.mk (blk_grown (g := gb625) (o := .cells #[.int .i64 a1_0, .int .i64 a1_1, .int .i64 a1_2] 27 (0, 0)) (be BK625) hg (Kd.R_ne HO_15.out BK625.out (by decide))); have n2_ := Aside0.mk (hb); have n3_ := Aside0.mk (ho); clear HO_11; clear BK625; clear HB; clear HO_15; have HO_11 := n0_; have BK625 := n1_; have HB := n2_; have HO645 := n3_; clear n0_ n1_ n2_ n3_; clear ho hb hg hat))
                 go_roundg k3
                 case measure => have := HK1.out; have := HK2.out; have := HK3.out; omega
                 case rel => exact ⟨(y643), (wrap64 (x16_3 + 1)), (by first | rfl | (simp; done) | (simp [*]; done)), H', ⟨by have := HK1.out; have := HK2.out; have := HK3.out; omega⟩, ⟨by (with_reducible repeat (first | apply Kd.R_alloc | apply Kd.R_drewN | apply Kd.R_drew)); exact HO_11.out⟩, ⟨by (with_reducible repeat (first | apply Kd.R_alloc | apply Kd.R_drewN | apply Kd.R_drew)); exact HO645.out⟩, ⟨be BK625⟩, ⟨bl⟩⟩
                ·exact absurd H (by simp)
              ·have c30b0 := decide_eq_false c30
               clear c30
               replace H := zi H
               obtain ⟨t646, A38, H⟩ := H
               try dsimp only at H
               have H' := Aside0.mk H
               clear H
               go_wp2_with (first | ((with_reducible refine zf 34 rfl ?_); refine g1 (some 72) Try.func34 #[.int .i64 a0, .int .i64 x12_2] ?_; (with_reducible refine (spec_l01Power.calls k3 a0 x12_2 t639 _ A29.out).mono ?_); rintro e w' ⟨rfl, ⟨nd, rfl⟩⟩; refine ⟨_, rfl, ?_⟩; obtain ⟨Ao39, co39, eo39⟩ := Kd.R_slice HO_15.out; subst eo39) | ((with_reducible refine zf 36 rfl ?_); refine g1 (some 99) Try.func36 #[.slice Ao39 x15_3.length co39] ?_; (with_reducible refine (spec_l03Sorted.calls k3 _ _ x15_3 t646 _ ?side1 ?side2 A38.out).mono ?_); (case side1 => repeat (first | exact (Kd.R_reads' HO_15.out).2.2 | (with_reducible refine Kd.C_alloc ?_ _) | (with_reducible refine Kd.C_drewN ?_ _) | (with_reducible refine Kd.C_drew ?_))); (case side2 => exact (Kd.R_reads' HO_15.out).2.1); rintro e w40 ⟨v647, rfl, ho0, hb⟩; refine ⟨_, rfl, ?_⟩; have HO648 := Aside0.mk (Kd.R_lower (Kd.R_new' ho0 (Kd.R_lt (by (with_reducible repeat (first | apply Kd.R_alloc | apply Kd.R_drewN | apply Kd.R_drew)); exact HO_15.out))) (below_size (bl))); replace HO_11 := Aside0.mk (Kd.R_below (by (with_reducible repeat (first | apply Kd.R_alloc | apply Kd.R_drewN | apply Kd.R_drew)); exact HO_11.out) hb); replace HO_15 := Aside0.mk (Kd.R_elder' (by (with_reducible repeat (first | apply Kd.R_alloc | apply Kd.R_drewN | apply Kd.R_drew)); exact HO_15.out) (Kd.R_base ho0) hb); replace BK625 := bb BK625 hb; replace HB := bs hb; (try clear hb); (try clear hb2); (try clear hk); (try clear hi); (try clear ho0)))
               go_loopg [11, 18] k3 (fun kq v11 v18 w' => ∃ (x11_4 : List (S27)) (x18_4 : Int), v18 = .int .i64 x18_4 ∧ Aside0 (spec_LatticesInside.l3 kq a0 a2 x11_4 x12_2 (wrap64 (a1_0 + x12_2)) t646 x18_4 a1_0 a1_1 a1_2 = some (r1, r2)) ∧ Aside0 (kq ≤ k3) ∧ Aside0 (Kd.R k27 27 w' w.heap.size (fun k_ => k_ ≠ gb625) v11 x11_4) ∧ Aside0 (Kd.R (Kd.int .i64) 2 w' w.heap.size (fun _ => True) v647 t646) ∧ Aside0 (w'.heap[gb625]? = some (.cells #[.int .i64 a1_0, .int .i64 a1_1, .int .i64 a1_2] 27 (0, 0))) ∧ Aside0 (Below w.heap.size w w'))
               case atStart => exact ⟨(x11_2), (0), (by first | rfl | (simp; done) | (simp [*]; done)), H', ⟨Nat.le_refl _⟩, ⟨by (with_reducible repeat (first | apply Kd.R_alloc | apply Kd.R_drewN | apply Kd.R_drew)); exact HO_11.out⟩, ⟨by (with_reducible repeat (first | apply Kd.R_alloc | apply Kd.R_drewN | apply Kd.R_drew)); exact Kd.R_mono HO648.out (fun _ hk => trivial)⟩, ⟨be BK625⟩, ⟨bl⟩⟩
               case round =>
                clear H'
                obtain ⟨x11_4, x18_4, rfl, HA, HK4, HO_11, HO_15, BK625, HB⟩ := hrel
                cases gk with
                | zero => exact absurd HA.out (by simp [spec_LatticesInside.l3])
                | succ k4 =>
                 have H := HA.out
                 clear HA
                 simp only [spec_LatticesInside.l3] at H
                 replace H := ii H
                 rcases H with ⟨c41, H⟩ | ⟨c41, H⟩
                 ·have c41b0 := decide_eq_true c41
                  clear c41
                  replace H := ii H
                  rcases H with ⟨c42, H⟩ | ⟨c42, H⟩
                  ·have c42b0 := decide_eq_true c42
                   clear c42
                   replace H := ii H
                   rcases H with ⟨c43, H⟩ | ⟨c43, H⟩
                   ·have LMc43 := Aside0.mk c43
                    clear c43
                    obtain ⟨y650, hy650⟩ : ∃ y_ : List (S27), y_ = (x11_4 ++ [(⟨(wrap64 (a1_0 + x12_2)), rd t646 x18_4, wrap64 ((wrap64 (a1_2 + a2)) - x12_2)⟩ : S27)]) := ⟨_, rfl⟩
                    replace H : (spec_LatticesInside.l3 k4 a0 a2 y650 x12_2 (wrap64 (a1_0 + x12_2)) t646 (wrap64 (x18_4 + 1)) a1_0 a1_1 a1_2) = some (r1, r2) := by first | exact hy650 ▸ H | exact H
                    have Ny650 := Aside0.mk hy650
                    clear hy650
                    have H' := Aside0.mk H
                    clear H
                    obtain ⟨Ao44, co44, eo44⟩ := Kd.R_slice HO_15.out
                    subst eo44
                    try go_wp2
                    replace HO_11 := Aside0.mk (Kd.R_drew HO_11.out)
                    replace HO_15 := Aside0.mk (Kd.R_drew HO_15.out)
                    replace BK625 := Aside0.mk (blk_drew BK625.out)
                    replace HB := Aside0.mk (below_drew1 HB.out)
                    have p649 : 0 ≤ (x18_4 : Int) := za
                    have q649 : x18_4 < (t646.length : Int) := za
                    obtain ⟨ad649, e649, hx649_0⟩ := Kd.at_int (Kd.R_reads' HO_15.out).2.2 x18_4 p649 q649
                    cases e649
                    replace p649 := eq_true p649
                    replace q649 := eq_true q649
                    refine start_ (n := 16) (S := fun w' => w'.cell? ⟨gb625, 0, none⟩ = some (.int .i64 a1_0) ∧ w'.cell? ⟨gb625, 1, none⟩ = some (.int .i64 a1_1) ∧ w'.cell? ⟨gb625, 2, none⟩ = some (.int .i64 a1_2) ∧ w'.cell? (ad649.add (x18_4).toNat) = some (.int .i64 (rd t646 x18_4))) (ds := [13, 14]) (tA 16 0) (by kernel_rfl) rfl rfl ⟨(blk_cell BK625.out 0).trans rfl, (blk_cell BK625.out 1).trans rfl, (blk_cell BK625.out 2).trans rfl, hx649_0⟩ (fun hHeld => ?_); refine with_tabW spec_LatticesInside.tab31 spec_LatticesInside.bits31 (fun HT_ HW_ => ?_)
                    generalize wr.drew = w45 at HO_11 HO_15 BK625 HB hx649_0 hHeld ⊢
                    refine pu 0 (some 106) (tA 16 1) HT_ ?_
                    refine pu 1 (some 107) (tA 16 3) HT_ ?_
                    refine pu 2 (some 108) (tA 16 7) HT_ ?_
                    refine pu 3 (some 109) (tA 16 15) HT_ ?_
                    refine pu 4 (some 110) (tA 16 31) HT_ ?_
                    refine pu 6 (some 112) (tA 16 95) HT_ ?_
                    refine pu 8 (some 114) (tA 16 351) HT_ ?_
                    refine pu 10 (some 116) (tA 16 1375) HT_ ?_
                    refine tk4 5 (some 111) (tA 16 1407) HT_ HW_ hHeld ?_
                    refine tk4 7 (some 113) (tA 16 1535) HT_ HW_ hHeld ?_
                    refine pu 9 (some 115) (tA 16 2047) HT_ ?_
                    refine pu 11 (some 117) (tA 16 4095) HT_ ?_
                    refine pu 12 (some 118) (tA 16 8191) HT_ ?_
                    refine last_ (i := 13) (N := some 119) (tA 16 16383) rfl rfl (one_of HT_.out (by kernel_rfl)) (by decide) (fun K hK => ?_)
                    refine value_ (w1 := ?_) (v := ?_) (by rfl) rfl ?_ ?_
                    rotate_left 2
                    ·go_simp
                     constructor
                     ·rfl
                     ·rfl
                    refine hK.out _ _ ?_
                    clear hK K
                    refine nm (some 119) ?_
                    refine last_ (i := 14) (N := some 120) (tA 16 32767) rfl rfl (one_of HT_.out (by kernel_rfl)) (by decide) (fun K hK => ?_)
                    refine Kd.R_append_step k27 (w0 := w) w.heap.size (by rfl) (.tmp 106) (.tmp 119) 24 27 (.agg #[(.int .i64 0), (.int .i64 0), (.int .i64 0)]) 24 rfl Try.underlying24 info27 rfl (by decide) (by omega) u11 x11_4 (⟨(wrap64 (a1_0 + x12_2)), rd t646 x18_4, wrap64 ((wrap64 (a1_2 + a2)) - x12_2)⟩ : S27) [.int .i64 (wrap64 (a1_0 + x12_2)), .int .i64 (rd t646 x18_4), .int .i64 (wrap64 ((wrap64 (a1_2 + a2)) - x12_2))] (fun k_ => k_ ≠ gb625) (fun _ => False) rfl rfl ?aP (fun _ hk => hk.elim) ?aF ?aO ?aB ?aS ?aL ?_
                    (case aP => exact k27_mkM _ _ _ (⟨(wrap64 (a1_0 + x12_2)), rd t646 x18_4, wrap64 ((wrap64 (a1_2 + a2)) - x12_2)⟩ : S27))
                    (case aB => exact (bl))
                    (case aF => exact (fun k_ hk => Kd.freshB (g := gb625) (o := .cells #[.int .i64 a1_0, .int .i64 a1_1, .int .i64 a1_2] 27 (0, 0)) (be BK625) k_ hk))
                    (case aO => exact (by (with_reducible repeat (first | apply Kd.R_alloc | apply Kd.R_drewN | apply Kd.R_drew)); exact HO_11.out))
                    (case aS => exact (below_size (bl)))
                    (case aL => have := LMc43.out; omega)
                    intro v651 w46 ho hb hg hat
                    rw [← Ny650.out] at ho
                    have n0_ := Aside0.mk (Kd.R_over' (by (with_reducible repeat (first | apply Kd.R_alloc | apply Kd.R_drewN | apply Kd.R_drew)); exact HO_15.out) (Kd.R_typed (by (with_reducible repeat (first | apply Kd.R_alloc | apply Kd.R_drewN | apply Kd.R_drew)); exact HO_11.out)) (by decide) hg)
                    have n1_ := Aside0.mk (blk_grown (g := gb625) (o := .cells #[.int .i64 a1_0, .int .i64 a1_1, .int .i64 a1_2] 27 (0, 0)) (be BK625) hg (Kd.R_away HO_11.out (fun _ hk => hk)))
                    have n2_ := Aside0.mk (hb)
                    have n3_ := Aside0.mk (ho)
                    clear HO_15
                    clear BK625
                    clear HB
                    clear HO_11
                    have HO_15 := n0_
                    have BK625 := n1_
                    have HB := n2_
                    have HO652 := n3_
                    clear n0_ n1_ n2_ n3_
                    clear ho hb hg hat
                    refine hK.out _ _ ?_
                    clear hK K
                    refine nm (some 120) ?_
                    refine pu 15 (some 11) (tA 16 65535) HT_ ?_
                    refine done_ (done_of HT_.out (by kernel_rfl)) ?_
                    try go_wp2
                    go_roundg k4
                    case measure => have := HK1.out; have := HK2.out; have := HK3.out; have := HK4.out; omega
                    case rel => exact ⟨(y650), (wrap64 (x18_4 + 1)), (by first | rfl | (simp; done) | (simp [*]; done)), H', ⟨by have := HK1.out; have := HK2.out; have := HK3.out; have := HK4.out; omega⟩, ⟨by (with_reducible repeat (first | apply Kd.R_alloc | apply Kd.R_drewN | apply Kd.R_drew)); exact HO652.out⟩, ⟨by (with_reducible repeat (first | apply Kd.R_alloc | apply Kd.R_drewN | apply Kd.R_drew)); exact HO_15.out⟩, ⟨be BK625⟩, ⟨bl⟩⟩
                   ·exact absurd H (by simp)
                  ·exact absurd H (by simp)
                 ·have c41b0 := decide_eq_false c41
                  clear c41
                  have H' := Aside0.mk H
                  clear H
                  obtain ⟨Ao47, co47, eo47⟩ := Kd.R_slice HO_15.out
                  subst eo47
                  go_wp2
                  go_roundg k4
                  case measure => have := HK1.out; have := HK2.out; have := HK3.out; have := HK4.out; omega
                  case rel => exact ⟨(x11_4), (wrap64 (x12_2 + 1)), (by first | rfl | (simp; done) | (simp [*]; done)), H', ⟨by have := HK1.out; have := HK2.out; have := HK3.out; have := HK4.out; omega⟩, ⟨by (with_reducible repeat (first | apply Kd.R_alloc | apply Kd.R_drewN | apply Kd.R_drew)); exact HO_11.out⟩, ⟨be BK625⟩, ⟨bl⟩⟩
           ·have c24b0 := decide_eq_false c24
            clear c24
            simp only [Option.some.injEq, Prod.mk.injEq] at H
            obtain ⟨rfl, rfl⟩ := H
            go_wp2
            go_ret2
            exact ⟨_, er, by (with_reducible repeat (first | apply Kd.R_alloc | apply Kd.R_drewN | apply Kd.R_drew)); exact Kd.R_mono HO_11.out (fun _ hk => trivial), bl⟩
  ·replace c7 := Bool.eq_false_iff.mpr c7
   subst c7
   have H1 : (some (([] : List (S27)), 2)) = some (r1, r2) := by rw [if_neg (show ¬ (false = true) by decide)] at H; exact H
   clear H
   have H := H1
   clear H1
   simp only [Option.some.injEq, Prod.mk.injEq] at H
   obtain ⟨rfl, rfl⟩ := H
   go_enter Try.func5, Try.ntmps5
   go_wp2_with (first | ((with_reducible refine zg 4 rfl ?_); refine z3 4 27 a1_0 a1_1 a1_2 ?_; intro gb625 hg w48 BK625 hb; have GW625 := sg hg; replace HB := bs hb; clear hb hg; obtain ⟨hcz49_0, hcz49_1, hcz49_2, hfz49_0, hfz49_1, hfz49_2⟩ := cq3 BK625) | ((with_reducible refine zg 21 rfl ?_); refine Kd.R_lit k27 _ 27 ?hg (N := 21) ?hd (xs := ([(⟨a1_0, a1_1, a1_2⟩ : S27)] : List (S27))) (inner := [.int .i64 a1_0, .int .i64 a1_1, .int .i64 a1_2]) (ok := fun _ => True) (okp := fun _ => True) ?hr ?hp (fun _ hk => hk) trivial (Below.refl _ _) (Nat.le_refl _) (by simp) ?_; (case hd => rfl); (case hg => rfl); (case hr => first | (go_simp; done) | (go_simp; rfl)); (case hp => exact (Reps.c3 (show Kd.M k27 _ _ _ (⟨a1_0, a1_1, a1_2⟩ : S27) [.int .i64 a1_0, .int .i64 a1_1, .int .i64 a1_2] from (k27_mkM _ _ _ (⟨a1_0, a1_1, a1_2⟩ : S27) )) (Reps.none _ _))); intro v627 w50 ho51 hb hg_ hnew_; clear hg_ hnew_; (first | rw [← Ny626.out] at ho51 | (simp only [Int.reduceToNat] at ho51; rw [← Ny626.out] at ho51)); have HO628 := Aside0.mk (Kd.R_lower (Kd.R_newB ho51 (g := gb625) (o := .cells #[.int .i64 a1_0, .int .i64 a1_1, .int .i64 a1_2] 27 (0, 0)) (be BK625)) (below_size (bl))); replace BK625 := bb BK625 hb; replace HB := bs hb; clear hb ho51; obtain ⟨Ao52, co52, eo52⟩ := Kd.R_slice HO628.out; subst eo52) | ((with_reducible refine zf 32 rfl ?_); refine g1 (some 22) Try.func32 #[.int .i64 a0, .slice Ao52 y626.length co52] ?_; (with_reducible refine (spec_l03Code.calls k a0 _ _ y626 t629 _ ?side1 ?side2 A4.out).mono ?_); (case side1 => repeat (first | exact (Kd.R_reads' HO628.out).2.2 | (with_reducible refine Kd.C_alloc ?_ _) | (with_reducible refine Kd.C_drewN ?_ _) | (with_reducible refine Kd.C_drew ?_))); (case side2 => exact (Kd.R_reads' HO628.out).2.1); rintro e w53 ⟨rfl, hb⟩; refine ⟨_, rfl, ?_⟩; replace HO628 := Aside0.mk (Kd.R_below (by (with_reducible repeat (first | apply Kd.R_alloc | apply Kd.R_drewN | apply Kd.R_drew)); exact HO628.out) hb); replace BK625 := bb BK625 hb; replace HB := bs hb; (try clear hb)) | ((with_reducible refine zf 33 rfl ?_); refine g1 (some 27) Try.func33 #[.int .i64 a2, .int .i64 0, .int .i64 4] ?_; (with_reducible refine (spec_l01In.calls a2 0 4 false _ A6.out).mono ?_); rintro e w' ⟨rfl, ⟨nd, rfl⟩⟩; refine ⟨_, rfl, ?_⟩))
   go_ret2
   exact ⟨_, er, by first | exact Kd.R_nil _ _ _ _ _ | exact Kd.N_nil _ _ _ _ _ | exact Kd.V_nil _ _ _ _ _ | exact Kd.Q_nil _ _ _ _ _ | exact Kd.S_nil _ _ _ _ _, bl⟩
 ·obtain ⟨c5b0, c5b1⟩ := zy c5
  simp only [Option.some.injEq, Prod.mk.injEq] at H
  obtain ⟨rfl, rfl⟩ := H
  go_enter Try.func5, Try.ntmps5
  go_wp2_with (first | ((with_reducible refine zg 4 rfl ?_); refine z3 4 27 a1_0 a1_1 a1_2 ?_; intro gb625 hg w54 BK625 hb; have GW625 := sg hg; replace HB := bs hb; clear hb hg; obtain ⟨hcz55_0, hcz55_1, hcz55_2, hfz55_0, hfz55_1, hfz55_2⟩ := cq3 BK625) | ((with_reducible refine zg 21 rfl ?_); refine Kd.R_lit k27 _ 27 ?hg (N := 21) ?hd (xs := ([(⟨a1_0, a1_1, a1_2⟩ : S27)] : List (S27))) (inner := [.int .i64 a1_0, .int .i64 a1_1, .int .i64 a1_2]) (ok := fun _ => True) (okp := fun _ => True) ?hr ?hp (fun _ hk => hk) trivial (Below.refl _ _) (Nat.le_refl _) (by simp) ?_; (case hd => rfl); (case hg => rfl); (case hr => first | (go_simp; done) | (go_simp; rfl)); (case hp => exact (Reps.c3 (show Kd.M k27 _ _ _ (⟨a1_0, a1_1, a1_2⟩ : S27) [.int .i64 a1_0, .int .i64 a1_1, .int .i64 a1_2] from (k27_mkM _ _ _ (⟨a1_0, a1_1, a1_2⟩ : S27) )) (Reps.none _ _))); intro v627 w56 ho57 hb hg_ hnew_; clear hg_ hnew_; (first | rw [← Ny626.out] at ho57 | (simp only [Int.reduceToNat] at ho57; rw [← Ny626.out] at ho57)); have HO628 := Aside0.mk (Kd.R_lower (Kd.R_newB ho57 (g := gb625) (o := .cells #[.int .i64 a1_0, .int .i64 a1_1, .int .i64 a1_2] 27 (0, 0)) (be BK625)) (below_size (bl))); replace BK625 := bb BK625 hb; replace HB := bs hb; clear hb ho57; obtain ⟨Ao58, co58, eo58⟩ := Kd.R_slice HO628.out; subst eo58) | ((with_reducible refine zf 32 rfl ?_); refine g1 (some 22) Try.func32 #[.int .i64 a0, .slice Ao58 y626.length co58] ?_; (with_reducible refine (spec_l03Code.calls k a0 _ _ y626 t629 _ ?side1 ?side2 A4.out).mono ?_); (case side1 => repeat (first | exact (Kd.R_reads' HO628.out).2.2 | (with_reducible refine Kd.C_alloc ?_ _) | (with_reducible refine Kd.C_drewN ?_ _) | (with_reducible refine Kd.C_drew ?_))); (case side2 => exact (Kd.R_reads' HO628.out).2.1); rintro e w59 ⟨rfl, hb⟩; refine ⟨_, rfl, ?_⟩; replace HO628 := Aside0.mk (Kd.R_below (by (with_reducible repeat (first | apply Kd.R_alloc | apply Kd.R_drewN | apply Kd.R_drew)); exact HO628.out) hb); replace BK625 := bb BK625 hb; replace HB := bs hb; (try clear hb)))
  go_ret2
  exact ⟨_, er, by first | exact Kd.R_nil _ _ _ _ _ | exact Kd.N_nil _ _ _ _ _ | exact Kd.V_nil _ _ _ _ _ | exact Kd.Q_nil _ _ _ _ _ | exact Kd.S_nil _ _ _ _ _, bl⟩

end Go.Proofs.Ytkfodnlogflcpaa.PFnLattices

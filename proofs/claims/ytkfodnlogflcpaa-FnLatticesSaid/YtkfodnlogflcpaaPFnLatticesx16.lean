-- Printed by the kit's print and repaired by a program of this session.
import Derived.Test.YtkfodnlogflcpaaPFnLatticesx0
import Derived.Test.YtkfodnlogflcpaaPFnLatticesx15
namespace Go.Proofs.Ytkfodnlogflcpaa.PFnLattices
open Go.RowKit Go.Proofs.YtkfodnlogflcpaaW.PrintWords Go.Proofs.YtkfodnlogflcpaaW.PrintLast Go.Proofs.YtkfodnlogflcpaaW.PrintMore
attribute [local go_sem] max2_int min2_int max_two min_two max_three min_three max_four min_four
set_option linter.unusedVariables false
set_option linter.unusedSimpArgs false

/-! ### spec_l03Sorted: function 36 -/
mutual
def spec_l03Sorted.l0 : Nat → List Int → List Int → Int → Option (List Int)
 | 0, _, _, _ => none
 | k + 1, x0, x3, x4 => if x4 < (x0.length : Int) then (spec_l03Sorted.l1 k x0 x3 x4 0) else (some x3)
def spec_l03Sorted.l1 : Nat → List Int → List Int → Int → Int → Option (List Int)
 | 0, _, _, _, _ => none
 | k + 1, x0, x3, x4, x5 => if x5 < (x3.length : Int) then (if 0 ≤ x5 then (if 0 ≤ x4 then (if x4 < (x0.length : Int) then (if (rd x3 x5) < (rd x0 x4) then (spec_l03Sorted.l1 k x0 x3 x4 (wrap64 (x5 + 1))) else ((some (([rd x0 x4] : List Int) : List Int)).bind fun y584 => (if x5 ≤ (x3.length : Int) then ((some (x3.drop (x5 : Int).toNat : List Int)).bind fun y587 => (if y584.length + y587.length < 17592186044416 then ((some (y584 ++ y587 : List Int)).bind fun y591 => ((spec_l01Own.f (x3.take (x5 : Int).toNat)).bind fun t598 => (if t598.length + y591.length < 17592186044416 then (spec_l03Sorted.l0 k x0 (t598 ++ y591) (wrap64 (x4 + 1))) else (none)))) else (none))) else (none)))) else (none)) else (none)) else (none)) else (if 0 ≤ x4 then (if x4 < (x0.length : Int) then ((some (([rd x0 x4] : List Int) : List Int)).bind fun y605 => (if 0 ≤ x5 then (if x5 ≤ (x3.length : Int) then ((some (x3.drop (x5 : Int).toNat : List Int)).bind fun y608 => (if y605.length + y608.length < 17592186044416 then ((some (y605 ++ y608 : List Int)).bind fun y612 => ((spec_l01Own.f (x3.take (x5 : Int).toNat)).bind fun t619 => (if t619.length + y612.length < 17592186044416 then (spec_l03Sorted.l0 k x0 (t619 ++ y612) (wrap64 (x4 + 1))) else (none)))) else (none))) else (none)) else (none))) else (none)) else (none))
end
def spec_l03Sorted.f (k : Nat) (l0 : List Int) : Option (List Int) := spec_l03Sorted.l0 k l0 (([] : List Int)) 0
def spec_l03Sorted.T6 : Bool × List (List Nat × List Nat) := (true, [([], []), ([], []), ([1], [1]), ([0, 2], [0, 2]), ([3], [3]), ([4], [4]), ([4], [4]), ([5, 6, 4], [4, 5, 6]), ([7, 4], [4, 7]), ([4], [4]), ([4], [4]), ([9, 10, 4], [4, 9, 10]), ([11, 4], [4, 11]), ([8, 12, 4], [4, 8, 12]), ([4, 13], [4, 13])])
def spec_l03Sorted.B6 : List Nat := [0, 0, 2, 7, 15, 31, 31, 127, 255, 31, 31, 1567, 3615, 8191, 16383]
theorem spec_l03Sorted.tab6 : rtab .any (opsOf Try.f36 6) = spec_l03Sorted.T6 := by kernel_rfl
theorem spec_l03Sorted.bits6 : waitsOk spec_l03Sorted.T6.2 spec_l03Sorted.B6 = true := by kernel_rfl
def spec_l03Sorted.T8 : Bool × List (List Nat × List Nat) := (true, [([], []), ([], []), ([0, 1], [0, 1]), ([2], [2]), ([3], [3]), ([], []), ([], []), ([5, 6], [5, 6]), ([4, 7], [4, 7]), ([8, 8, 0, 1, 2, 3, 4, 5, 6, 7, 8], [8])])
def spec_l03Sorted.B8 : List Nat := [0, 0, 3, 7, 15, 0, 0, 96, 255, 511]
theorem spec_l03Sorted.tab8 : rtab .any (opsOf Try.f36 8) = spec_l03Sorted.T8 := by kernel_rfl
theorem spec_l03Sorted.bits8 : waitsOk spec_l03Sorted.T8.2 spec_l03Sorted.B8 = true := by kernel_rfl
set_option maxHeartbeats 8000000 in
set_option maxRecDepth 100000 in
theorem spec_l03Sorted.calls (k : Nat) (A0 : Option Addr) (c0 : Nat) (l0 : List Int) (r : List Int) (w : World) (hr0 : Kd.C (Kd.int .i64) w A0 l0.length l0) (hc0 : l0.length ≤ c0) (h : spec_l03Sorted.f k l0 = some r) :
  Calls Try.prog 36 #[.slice A0 l0.length c0] w fun e w' => ∃ v0_ : Value, e = .returned (v0_) ∧ Kd.R (Kd.int .i64) 2 w' w.heap.size (fun _ => True) v0_ r ∧ Below w.heap.size w w' := by
 have HR0 := Aside0.mk hr0
 have HC0 := Aside0.mk hc0
 clear hr0 hc0
 have HB := Aside0.mk (Below.refl w.heap.size w)
 unfold spec_l03Sorted.f at h
 have H := h
 clear h
 obtain ⟨y578, hy578⟩ : ∃ y_ : List Int, y_ = (([] : List Int)) := ⟨_, rfl⟩
 replace H : (spec_l03Sorted.l0 k l0 y578 0) = some r := by first | exact hy578 ▸ H | exact H
 have Ny578 := Aside0.mk hy578
 clear hy578
 have H' := Aside0.mk H
 clear H
 go_enter Try.func36, Try.ntmps36
 go_wp2_with (first | ((with_reducible refine zg 7 rfl ?_); refine Kd.R_lit (Kd.int .i64) _ 2 ?hg (N := 7) ?hd (xs := ([] : List Int)) (inner := []) (ok := fun _ => True) (okp := fun _ => True) ?hr ?hp (fun _ hk => hk) trivial (Below.refl _ _) (Nat.le_refl _) (by simp) ?_; (case hd => rfl); (case hg => rfl); (case hr => first | (go_simp; done) | (go_simp; rfl)); (case hp => exact (Reps.none _ _)); intro v579 w2 ho3 hb hg_ hnew_; clear hg_ hnew_; (first | rw [← Ny578.out] at ho3 | (simp only [Int.reduceToNat] at ho3; rw [← Ny578.out] at ho3)); have HO580 := Aside0.mk (Kd.R_lower ho3 (below_size (bl))); replace HB := bs hb; clear hb ho3))
 go_loopg [3, 4] k (fun kq v3 v4 w' => ∃ (x3_1 : List Int) (x4_1 : Int), v4 = .int .i64 x4_1 ∧ Aside0 (spec_l03Sorted.l0 kq l0 x3_1 x4_1 = some r) ∧ Aside0 (kq ≤ k) ∧ Aside0 (Kd.R (Kd.int .i64) 2 w' w.heap.size (fun _ => True) v3 x3_1) ∧ Aside0 (Below w.heap.size w w'))
 case atStart => exact ⟨(y578), (0), (by first | rfl | (simp; done) | (simp [*]; done)), H', ⟨Nat.le_refl _⟩, ⟨by (with_reducible repeat (first | apply Kd.R_alloc | apply Kd.R_drewN | apply Kd.R_drew)); exact HO580.out⟩, ⟨bl⟩⟩
 case round =>
  clear H'
  obtain ⟨x3_1, x4_1, rfl, HA, HK1, HO_3, HB⟩ := hrel
  cases gk with
  | zero => exact absurd HA.out (by simp [spec_l03Sorted.l0])
  | succ k1 =>
   have H := HA.out
   clear HA
   simp only [spec_l03Sorted.l0] at H
   replace H := ii H
   rcases H with ⟨c4, H⟩ | ⟨c4, H⟩
   ·have c4b0 := decide_eq_true c4
    clear c4
    have H' := Aside0.mk H
    clear H
    go_wp2
    go_loopg [5] k1 (fun kq v5 w' => ∃ (x5_2 : Int), v5 = .int .i64 x5_2 ∧ Aside0 (spec_l03Sorted.l1 kq l0 x3_1 x4_1 x5_2 = some r) ∧ Aside0 (kq ≤ k1) ∧ Aside0 (Kd.R (Kd.int .i64) 2 w' w.heap.size (fun _ => True) u3 x3_1) ∧ Aside0 (Below w.heap.size w w'))
    case atStart => exact ⟨(0), (by first | rfl | (simp; done) | (simp [*]; done)), H', ⟨Nat.le_refl _⟩, ⟨by (with_reducible repeat (first | apply Kd.R_alloc | apply Kd.R_drewN | apply Kd.R_drew)); exact HO_3.out⟩, ⟨bl⟩⟩
    case round =>
     clear H'
     obtain ⟨x5_2, rfl, HA, HK2, HO_3, HB⟩ := hrel
     cases gk with
     | zero => exact absurd HA.out (by simp [spec_l03Sorted.l1])
     | succ k2 =>
      have H := HA.out
      clear HA
      simp only [spec_l03Sorted.l1] at H
      replace H := ii H
      rcases H with ⟨c5, H⟩ | ⟨c5, H⟩
      ·have c5b0 := decide_eq_true c5
       clear c5
       replace H := ii H
       rcases H with ⟨c6, H⟩ | ⟨c6, H⟩
       ·have c6b0 := decide_eq_true c6
        clear c6
        replace H := ii H
        rcases H with ⟨c7, H⟩ | ⟨c7, H⟩
        ·have c7b0 := decide_eq_true c7
         clear c7
         replace H := ii H
         rcases H with ⟨c8, H⟩ | ⟨c8, H⟩
         ·have c8b0 := decide_eq_true c8
          clear c8
          replace H := ii H
          rcases H with ⟨c9, H⟩ | ⟨c9, H⟩
          ·have c9b0 := decide_eq_true c9
           clear c9
           have H' := Aside0.mk H
           clear H
           try go_wp2
           replace HO_3 := Aside0.mk (Kd.R_drew HO_3.out)
           replace HB := Aside0.mk (below_drew1 HB.out)
           obtain ⟨Ao11, co11, eo11⟩ := Kd.R_slice HO_3.out
           (first | subst eo11 | (injection eo11 with f1_ f2_ f3_; have f4_ := f1_.symm; have f5_ := f3_.symm; clear f1_ f2_ f3_; subst f4_; subst f5_))
           have p581 : 0 ≤ (x5_2 : Int) := za
           have q581 : x5_2 < (x3_1.length : Int) := za
           obtain ⟨ad581, e581, hx581_0⟩ := Kd.at_int (Kd.R_reads' HO_3.out).2.2 x5_2 p581 q581
           cases e581
           replace p581 := eq_true p581
           replace q581 := eq_true q581
           have p582 : 0 ≤ (x4_1 : Int) := za
           have q582 : x4_1 < (l0.length : Int) := za
           obtain ⟨ad582, e582, hx582_0⟩ := Kd.at_int HR0.out x4_1 p582 q582
           have hw582_0 := hx582_0
           cases e582
           replace hx582_0 := (HB.out.cell (World.block_lt_of_cell? w _ hx582_0)).trans hx582_0
           replace p582 := eq_true p582
           replace q582 := eq_true q582
           refine sw 15 (fun w' => w'.cell? (ad581.add (x5_2).toNat) = some (.int .i64 (rd x3_1 x5_2)) ∧ w'.cell? (ad582.add (x4_1).toNat) = some (.int .i64 (rd l0 x4_1))) spec_l03Sorted.tab6 spec_l03Sorted.bits6 ⟨hx581_0, ((HB.out.cell (World.block_lt_of_cell? w _ hw582_0)).trans hw582_0)⟩ (fun hHeld HT_ HW_ => ?_)
           generalize wr.drew = w10 at HO_3 HB hx581_0 hx582_0 hHeld ⊢
           refine pu 0 (some 14) (tA 15 1) HT_ ?_
           refine pu 1 (some 15) (tA 15 3) HT_ ?_
           refine pu 2 (some 16) (tA 15 7) HT_ ?_
           refine pu 3 (some 17) (tA 15 15) HT_ ?_
           refine pu 4 (some 18) (tA 15 31) HT_ ?_
           refine pu 5 (some 19) (tA 15 63) HT_ ?_
           refine pu 6 (some 20) (tA 15 127) HT_ ?_
           refine pu 7 (some 21) (tA 15 255) HT_ ?_
           refine pu 9 (some 23) (tA 15 767) HT_ ?_
           refine pu 10 (some 24) (tA 15 1791) HT_ ?_
           refine pu 11 (some 25) (tA 15 3839) HT_ ?_
           refine tk2 8 (some 22) (tA 15 4095) HT_ HW_ hHeld ?_
           refine tk2 12 (some 26) (tA 15 8191) HT_ HW_ hHeld ?_
           refine pu 13 (some 27) (tA 15 16383) HT_ ?_
           refine pu 14 (some 28) (tA 15 32767) HT_ ?_
           refine done_ (done_of HT_.out (by kernel_rfl)) ?_
           try go_wp2
           go_roundg k2
           case measure => have := HK1.out; have := HK2.out; omega
           case rel => exact ⟨(wrap64 (x5_2 + 1)), (by first | rfl | (simp; done) | (simp [*]; done)), H', ⟨by have := HK1.out; have := HK2.out; omega⟩, ⟨by (with_reducible repeat (first | apply Kd.R_alloc | apply Kd.R_drewN | apply Kd.R_drew)); exact HO_3.out⟩, ⟨bl⟩⟩
          ·have c9b0 := decide_eq_false c9
           clear c9
           obtain ⟨y584, hy584⟩ : ∃ y_ : List Int, y_ = (([rd l0 x4_1] : List Int)) := ⟨_, rfl⟩
           replace H : (if x5_2 ≤ (x3_1.length : Int) then ((some (x3_1.drop (x5_2 : Int).toNat : List Int)).bind fun y587 => (if y584.length + y587.length < 17592186044416 then ((some (y584 ++ y587 : List Int)).bind fun y591 => ((spec_l01Own.f (x3_1.take (x5_2 : Int).toNat)).bind fun t598 => (if t598.length + y591.length < 17592186044416 then (spec_l03Sorted.l0 k2 l0 (t598 ++ y591) (wrap64 (x4_1 + 1))) else (none)))) else (none))) else (none)) = some r := by first | exact hy584 ▸ H | exact H
           have Ny584 := Aside0.mk hy584
           clear hy584
           have c12b0 := eq_true (of_decide_eq_true (by first | (with_reducible assumption) | assumption) : 0 ≤ x5_2)
           replace H := ii H
           rcases H with ⟨c13, H⟩ | ⟨c13, H⟩
           ·have c13b0 := eq_true c13
            have c13b1 := decide_eq_true c13
            clear c13
            obtain ⟨y587, hy587⟩ : ∃ y_ : List Int, y_ = (x3_1.drop (x5_2 : Int).toNat) := ⟨_, rfl⟩
            replace H : (if y584.length + y587.length < 17592186044416 then ((some (y584 ++ y587 : List Int)).bind fun y591 => ((spec_l01Own.f (x3_1.take (x5_2 : Int).toNat)).bind fun t598 => (if t598.length + y591.length < 17592186044416 then (spec_l03Sorted.l0 k2 l0 (t598 ++ y591) (wrap64 (x4_1 + 1))) else (none)))) else (none)) = some r := by first | exact hy587 ▸ H | exact H
            have Ny587 := Aside0.mk hy587
            clear hy587
            replace H := ii H
            rcases H with ⟨c14, H⟩ | ⟨c14, H⟩
            ·have LMc14 := Aside0.mk c14
             clear c14
             obtain ⟨y591, hy591⟩ : ∃ y_ : List Int, y_ = (y584 ++ y587) := ⟨_, rfl⟩
             replace H : ((spec_l01Own.f (x3_1.take (x5_2 : Int).toNat)).bind fun t598 => (if t598.length + y591.length < 17592186044416 then (spec_l03Sorted.l0 k2 l0 (t598 ++ y591) (wrap64 (x4_1 + 1))) else (none))) = some r := by first | exact hy591 ▸ H | exact H
             have Ny591 := Aside0.mk hy591
             clear hy591
             have c15b0 := eq_true (of_decide_eq_true (by first | (with_reducible assumption) | assumption) : 0 ≤ x5_2)
             have c16b0 := eq_true (of_decide_eq_true (by first | (with_reducible assumption) | assumption) : x5_2 ≤ (x3_1.length : Int))
             obtain ⟨y594, hy594⟩ : ∃ y_ : List Int, y_ = (x3_1.take (x5_2 : Int).toNat) := ⟨_, rfl⟩
             replace H : ((spec_l01Own.f y594).bind fun t598 => (if t598.length + y591.length < 17592186044416 then (spec_l03Sorted.l0 k2 l0 (t598 ++ y591) (wrap64 (x4_1 + 1))) else (none))) = some r := by first | exact hy594 ▸ H | exact H
             have Ny594 := Aside0.mk hy594
             clear hy594
             replace H := zi H
             obtain ⟨t598, A17, H⟩ := H
             try dsimp only at H
             replace H := ii H
             rcases H with ⟨c18, H⟩ | ⟨c18, H⟩
             ·have LMc18 := Aside0.mk c18
              clear c18
              obtain ⟨y601, hy601⟩ : ∃ y_ : List Int, y_ = (t598 ++ y591) := ⟨_, rfl⟩
              replace H : (spec_l03Sorted.l0 k2 l0 y601 (wrap64 (x4_1 + 1))) = some r := by first | exact hy601 ▸ H | exact H
              have Ny601 := Aside0.mk hy601
              clear hy601
              have H' := Aside0.mk H
              clear H
              try go_wp2
              replace HO_3 := Aside0.mk (Kd.R_drew HO_3.out)
              replace HB := Aside0.mk (below_drew1 HB.out)
              obtain ⟨Ao20, co20, eo20⟩ := Kd.R_slice HO_3.out
              (first | subst eo20 | (injection eo20 with f1_ f2_ f3_; have f4_ := f1_.symm; have f5_ := f3_.symm; clear f1_ f2_ f3_; subst f4_; subst f5_))
              have p581 : 0 ≤ (x5_2 : Int) := za
              have q581 : x5_2 < (x3_1.length : Int) := za
              obtain ⟨ad581, e581, hx581_0⟩ := Kd.at_int (Kd.R_reads' HO_3.out).2.2 x5_2 p581 q581
              cases e581
              replace p581 := eq_true p581
              replace q581 := eq_true q581
              have p582 : 0 ≤ (x4_1 : Int) := za
              have q582 : x4_1 < (l0.length : Int) := za
              obtain ⟨ad582, e582, hx582_0⟩ := Kd.at_int HR0.out x4_1 p582 q582
              have hw582_0 := hx582_0
              cases e582
              replace hx582_0 := (HB.out.cell (World.block_lt_of_cell? w _ hx582_0)).trans hx582_0
              replace p582 := eq_true p582
              replace q582 := eq_true q582
              refine sw 15 (fun w' => w'.cell? (ad581.add (x5_2).toNat) = some (.int .i64 (rd x3_1 x5_2)) ∧ w'.cell? (ad582.add (x4_1).toNat) = some (.int .i64 (rd l0 x4_1))) spec_l03Sorted.tab6 spec_l03Sorted.bits6 ⟨hx581_0, ((HB.out.cell (World.block_lt_of_cell? w _ hw582_0)).trans hw582_0)⟩ (fun hHeld HT_ HW_ => ?_)
              generalize wr.drew = w19 at HO_3 HB hx581_0 hx582_0 hHeld ⊢
              refine pu 0 (some 14) (tA 15 1) HT_ ?_
              refine pu 1 (some 15) (tA 15 3) HT_ ?_
              refine pu 2 (some 16) (tA 15 7) HT_ ?_
              refine pu 3 (some 17) (tA 15 15) HT_ ?_
              refine pu 4 (some 18) (tA 15 31) HT_ ?_
              refine pu 5 (some 19) (tA 15 63) HT_ ?_
              refine pu 6 (some 20) (tA 15 127) HT_ ?_
              refine pu 7 (some 21) (tA 15 255) HT_ ?_
              refine pu 9 (some 23) (tA 15 767) HT_ ?_
              refine pu 10 (some 24) (tA 15 1791) HT_ ?_
              refine pu 11 (some 25) (tA 15 3839) HT_ ?_
              refine tk2 8 (some 22) (tA 15 4095) HT_ HW_ hHeld ?_
              refine tk2 12 (some 26) (tA 15 8191) HT_ HW_ hHeld ?_
              refine pu 13 (some 27) (tA 15 16383) HT_ ?_
              refine pu 14 (some 28) (tA 15 32767) HT_ ?_
              refine done_ (done_of HT_.out (by kernel_rfl)) ?_
              try go_wp2
              replace HO_3 := Aside0.mk (Kd.R_drew HO_3.out)
              replace HB := Aside0.mk (below_drew1 HB.out)
              have p583 : 0 ≤ (x4_1 : Int) := za
              have q583 : x4_1 < (l0.length : Int) := za
              obtain ⟨ad583, e583, hx583_0⟩ := Kd.at_int HR0.out x4_1 p583 q583
              have hw583_0 := hx583_0
              obtain rfl : ad582 = ad583 := (by injection e583)
              replace hx583_0 := (HB.out.cell (World.block_lt_of_cell? w _ hx583_0)).trans hx583_0
              replace p583 := eq_true p583
              replace q583 := eq_true q583
              have q22 : (x5_2 : Int) ≤ ((x3_1.length : Int) : Int) := za
              obtain ⟨i022, hi022, _, hsz22, _⟩ := info_parts info2
              have hroom22 : x3_1.length ≤ co20 := (Kd.R_reads' HO_3.out).2.1
              have hC22 : Kd.C (Kd.int .i64) _ (some ad581) x3_1.length x3_1 := (Kd.R_reads' HO_3.out).2.2
              have q022 : (0 : Int) ≤ (x5_2 : Int) := za
              have hcut22 := cut_from (P := Try.prog) 63 2 .i64 Try.underlying63 hi022 1 hsz22 (some ad581) x3_1.length co20 x5_2 q022 q22
              have hr22 := Kd.C_drop (m := (x5_2 : Int).toNat) (c := co20) hC22 (by omega) hroom22
              obtain ⟨A22, hA22⟩ : ∃ A1, A1 = (if co20 = (x5_2 : Int).toNat then (some ad581) else ((some ad581) : Option Addr).map (·.add ((x5_2 : Int).toNat * 1))) := ⟨_, rfl⟩
              obtain ⟨c22, hc22⟩ : ∃ c1, c1 = co20 - (x5_2 : Int).toNat := ⟨_, rfl⟩
              have hy22 : y587.length = x3_1.length - (x5_2 : Int).toNat := (by rw [Ny587.out, List.length_drop] <;> omega)
              rw [show (x3_1).drop (x5_2 : Int).toNat = y587 from Ny587.out.symm] at hr22
              replace hr22 : Kd.C (Kd.int .i64) _ A22 y587.length y587 := (by rw [hA22]; exact hr22)
              rw [← hy22, ← hA22, ← hc22] at hcut22
              have HR590 := Aside0.mk hr22
              have HC590 := Aside0.mk (show y587.length ≤ c22 from by rw [hy22, hc22]; exact Nat.sub_le_sub_right hroom22 _)
              clear hr22 hC22 hroom22 hi022 hsz22 hc22
              have KY22 := Aside0.mk hy22
              have KA22 := Aside0.mk hA22
              clear hy22 hA22
              have KL22 := Aside0.mk (show (x5_2 : Int).toNat ≤ x3_1.length from by omega)
              replace q22 := eq_true q22
              refine sw 10 (fun w' => w'.cell? (ad582.add (x4_1).toNat) = some (.int .i64 (rd l0 x4_1))) spec_l03Sorted.tab8 spec_l03Sorted.bits8 (((HB.out.cell (World.block_lt_of_cell? w _ hw583_0)).trans hw583_0)) (fun hHeld HT_ HW_ => ?_)
              generalize w19.drew = w21 at HO_3 HB HR590 hx583_0 hHeld ⊢
              refine pu 0 (some 31) (tA 10 1) HT_ ?_
              refine pu 1 (some 32) (tA 10 3) HT_ ?_
              refine pu 2 (some 33) (tA 10 7) HT_ ?_
              refine pu 5 (some 36) (tA 10 39) HT_ ?_
              refine pu 6 (some 37) (tA 10 103) HT_ ?_
              refine pu 7 (some 38) (tA 10 231) HT_ ?_
              refine take_ (i := 3) (N := some 34) (v := ?_) (a' := ?_) (tA 10 239) rfl rfl (take_ofW HT_.out HW_.out (by kernel_rfl)) (fun _ _ _ h => h) (Or.inl ⟨by rfl, ?_⟩) hHeld ?_ ?_
              rotate_left
              ·intro w' s0
               go_simp
               with_reducible rfl
              rotate_left
              ·simp only [Act.put, zq, zr, zt, i64_w, i32_w]
               rfl
              refine o1 4 (some 35) (tA 10 255) HT_ (fun K hK => ?_)
              refine Kd.R_lit_step (Kd.int .i64) _ 2 ?hg (N := 35) ?hd (xs := ([rd l0 x4_1] : List Int)) (inner := [.int .i64 (rd l0 x4_1)]) (ok := fun _ => True) (okp := fun _ => True) ?hr ?hp (fun _ hk => hk) trivial (Below.refl _ _) (Nat.le_refl _) (by simp) ?_; (case hd => rfl); (case hg => rfl); (case hr => first | (go_simp; done) | (go_simp; rfl)); (case hp => exact (Reps.one (show Kd.M (Kd.int .i64) _ _ _ (rd l0 x4_1) [.int .i64 (rd l0 x4_1)] from rfl) (Reps.none _ _)))
              intro v585 w23 ho24 hb hg_ hnew_
              clear hg_ hnew_
              (first | rw [← Ny584.out] at ho24 | (simp only [Int.reduceToNat] at ho24; rw [← Ny584.out] at ho24))
              have HO586 := Aside0.mk (Kd.R_lower (Kd.R_new' ho24 (Kd.R_lt (by (with_reducible repeat (first | apply Kd.R_alloc | apply Kd.R_drewN | apply Kd.R_drew)); exact HO_3.out))) (below_size (bl)))
              replace HO_3 := Aside0.mk (Kd.R_elder' (by (with_reducible repeat (first | apply Kd.R_alloc | apply Kd.R_drewN | apply Kd.R_drew)); exact HO_3.out) (Kd.R_base ho24) hb)
              replace HR590 := Aside0.mk (Kd.C_below (by repeat (first | (with_reducible exact HR590.out) | (with_reducible refine Kd.C_alloc ?_ _) | (with_reducible refine Kd.C_drewN ?_ _) | (with_reducible refine Kd.C_drew ?_) | exact HR590.out)) hb)
              replace HB := bs hb
              clear hb ho24
              refine hK.out _ _ (((HB.out.cell (World.block_lt_of_cell? w _ hw583_0)).trans hw583_0)) (fun hHeld => ?_)
              clear hK K
              refine nm (some 35) ?_
              refine o1 8 (some 39) (tA 10 511) HT_ (fun K hK => ?_)
              refine Kd.R_append_rows_step (Kd.int .i64) (w0 := w) w.heap.size (by rfl) (.tmp 35) (.tmp 38) 63 2 (.int .i64 0) 8 rfl Try.underlying63 info2 rfl (by decide) (by omega) v585 y584 y587 _ _ _ (fun k_ => some k_ ≠ (.slice (some ad581) x3_1.length co20 : Value).ownBlock) (fun _ => False) rfl rfl ?aO ?aR (fun _ _ h => h) (fun _ h => h.elim) ?aF ?aB ?aS ?aL ?_
              (case aR => repeat (first | exact (by repeat (first | (with_reducible exact HR590.out) | (with_reducible refine Kd.C_alloc ?_ _) | (with_reducible refine Kd.C_drewN ?_ _) | (with_reducible refine Kd.C_drew ?_) | exact HR590.out)) | (with_reducible refine Kd.C_alloc ?_ _) | (with_reducible refine Kd.C_drewN ?_ _) | (with_reducible refine Kd.C_drew ?_)))
              (case aB => exact (bl))
              (case aF => exact (fun k_ hk => Kd.fresh' (Kd.R_lt (by (with_reducible repeat (first | apply Kd.R_alloc | apply Kd.R_drewN | apply Kd.R_drew)); exact HO_3.out)) k_ hk))
              (case aO => exact (by (with_reducible repeat (first | apply Kd.R_alloc | apply Kd.R_drewN | apply Kd.R_drew)); exact Kd.R_mono HO586.out (fun _ hk => hk.2)))
              (case aS => exact (below_size (bl)))
              (case aL => have := LMc14.out; omega)
              intro v592 w25 ho hb hg hat
              rw [← Ny591.out] at ho
              have n0_ := Aside0.mk (Kd.R_after (ok := (fun _ => True)) (by (with_reducible repeat (first | apply Kd.R_alloc | apply Kd.R_drewN | apply Kd.R_drew)); exact HO_3.out) hg hat)
              have n1_ := Aside0.mk (hb)
              have n2_ := Aside0.mk ((show Kd.C (Kd.int .i64) w25 A22 y587.length y587 from by rw [Ny587.out, KA22.out]; exact Kd.C_drop (m := (x5_2 : Int).toNat) (c := co20) ((Kd.R_reads' (Kd.R_after (ok := (fun _ => True)) (by (with_reducible repeat (first | apply Kd.R_alloc | apply Kd.R_drewN | apply Kd.R_drew)); exact HO_3.out) hg hat)).2.2) KL22.out ((Kd.R_reads' (Kd.R_after (ok := (fun _ => True)) (by (with_reducible repeat (first | apply Kd.R_alloc | apply Kd.R_drewN | apply Kd.R_drew)); exact HO_3.out) hg hat)).2.1)))
              have n3_ := Aside0.mk (ho)
              clear HO_3
              clear HB
              clear HR590
              clear HO586
              have HO_3 := n0_
              have HB := n1_
              have HR590 := n2_
              have HO593 := n3_
              clear n0_ n1_ n2_ n3_
              clear ho hb hg hat
              refine hK.out _ _ (((HB.out.cell (World.block_lt_of_cell? w _ hw583_0)).trans hw583_0)) (fun hHeld => ?_)
              clear hK K
              refine nm (some 39) ?_
              refine pu 9 (some 6) (tA 10 1023) HT_ ?_
              refine done_ (done_of HT_.out (by kernel_rfl)) ?_
              have q26 : (x5_2 : Int) ≤ ((x3_1.length : Int) : Int) := za
              obtain ⟨i026, hi026, _, hsz26, _⟩ := info_parts info2
              have hroom26 : x3_1.length ≤ co20 := (Kd.R_reads' HO_3.out).2.1
              have hC26 : Kd.C (Kd.int .i64) _ (some ad581) x3_1.length x3_1 := (Kd.R_reads' HO_3.out).2.2
              have hcut26 := cut_to (P := Try.prog) 63 2 .i64 Try.underlying63 hi026 (some ad581) x3_1.length co20 x5_2 (of_decide_eq_true (by first | (with_reducible assumption) | assumption)) q26 hroom26
              have hr26 := Kd.C_take (m := (x5_2 : Int).toNat) hC26 (by omega)
              have hy26 : y594.length = (x5_2 : Int).toNat := (by rw [Ny594.out, List.length_take]; omega)
              rw [← Ny594.out] at hr26
              rw [← hy26] at hcut26
              have HR597 := Aside0.mk hr26
              have HC597 := Aside0.mk (show y594.length ≤ co20 from by omega)
              clear hr26 hC26 hroom26 hi026 hsz26
              have KY26 := Aside0.mk hy26
              clear hy26
              have KL26 := Aside0.mk (show (x5_2 : Int).toNat ≤ x3_1.length from by omega)
              replace q26 := eq_true q26
              try go_wp2_with (first | ((with_reducible refine zf 70 rfl ?_); refine g1 (some 43) Try.func70 #[.slice (some ad581) y594.length co20] ?_; (with_reducible refine (spec_l01Own.calls _ _ y594 t598 _ ?side1 ?side2 A17.out).mono ?_); (case side1 => repeat (first | exact (by repeat (first | (with_reducible exact HR597.out) | (with_reducible refine Kd.C_alloc ?_ _) | (with_reducible refine Kd.C_drewN ?_ _) | (with_reducible refine Kd.C_drew ?_) | exact HR597.out)) | (with_reducible refine Kd.C_alloc ?_ _) | (with_reducible refine Kd.C_drewN ?_ _) | (with_reducible refine Kd.C_drew ?_))); (case side2 => exact HC597.out); rintro e w27 ⟨v599, rfl, ho0, hb⟩; refine ⟨_, rfl, ?_⟩; have HO600 := Aside0.mk (Kd.R_lower (Kd.R_new' (Kd.R_new' ho0 (Kd.R_lt (by (with_reducible repeat (first | apply Kd.R_alloc | apply Kd.R_drewN | apply Kd.R_drew)); exact HO_3.out))) (Kd.R_lt (by (with_reducible repeat (first | apply Kd.R_alloc | apply Kd.R_drewN | apply Kd.R_drew)); exact HO593.out))) (below_size (bl))); replace HO_3 := Aside0.mk (Kd.R_elder' (by (with_reducible repeat (first | apply Kd.R_alloc | apply Kd.R_drewN | apply Kd.R_drew)); exact HO_3.out) (Kd.R_base ho0) hb); replace HO593 := Aside0.mk (Kd.R_elder' (by (with_reducible repeat (first | apply Kd.R_alloc | apply Kd.R_drewN | apply Kd.R_drew)); exact HO593.out) (Kd.R_base ho0) hb); replace HR590 := Aside0.mk (Kd.C_below (by repeat (first | (with_reducible exact HR590.out) | (with_reducible refine Kd.C_alloc ?_ _) | (with_reducible refine Kd.C_drewN ?_ _) | (with_reducible refine Kd.C_drew ?_) | exact HR590.out)) hb); replace HR597 := Aside0.mk (Kd.C_below (by repeat (first | (with_reducible exact HR597.out) | (with_reducible refine Kd.C_alloc ?_ _) | (with_reducible refine Kd.C_drewN ?_ _) | (with_reducible refine Kd.C_drew ?_) | exact HR597.out)) hb); replace HB := bs hb; (try clear hb); (try clear hb2); (try clear hk); (try clear hi); (try clear ho0); obtain ⟨Ao29, co29, eo29⟩ := Kd.R_slice HO593.out; subst eo29) | ((with_reducible refine gate_builtin (b := .append) (xs := #[.tmp 43, .tmp 44]) rfl ?_); at_builtin; refine Kd.R_append_rows (Kd.int .i64) (w0 := w) w.heap.size rfl (.tmp 43) (.tmp 44) 63 2 (.int .i64 0) 8 rfl Try.underlying63 info2 rfl (by decide) (by omega) v599 t598 y591 _ _ _ (fun k_ => some k_ ≠ (.slice (some ad581) x3_1.length co20 : Value).ownBlock ∧ some k_ ≠ (.slice Ao29 y591.length co29 : Value).ownBlock) (fun _ => False) rfl rfl ?aO ?aR (fun _ _ h => h) (fun _ h => h.elim) ?aF ?aB ?aS ?aL ?_; (case aR => repeat (first | exact (Kd.R_reads' HO593.out).2.2 | (with_reducible refine Kd.C_alloc ?_ _) | (with_reducible refine Kd.C_drewN ?_ _) | (with_reducible refine Kd.C_drew ?_))); (case aB => exact (bl)); (case aF => exact (fun k_ hk => ⟨Kd.fresh' (Kd.R_lt (by (with_reducible repeat (first | apply Kd.R_alloc | apply Kd.R_drewN | apply Kd.R_drew)); exact HO_3.out)) k_ hk, Kd.fresh' (Kd.R_lt (by (with_reducible repeat (first | apply Kd.R_alloc | apply Kd.R_drewN | apply Kd.R_drew)); exact HO593.out)) k_ hk⟩)); (case aO => exact (by (with_reducible repeat (first | apply Kd.R_alloc | apply Kd.R_drewN | apply Kd.R_drew)); exact Kd.R_mono HO600.out (fun _ hk => ⟨hk.1.2, hk.2⟩))); (case aS => exact (below_size (bl))); (case aL => have := LMc18.out; omega); intro v602 w28 ho hb hg hat; rw [← Ny601.out] at ho; have n0_ := Aside0.mk (Kd.R_after (ok := (fun k_ => some k_ ≠ (.slice Ao29 y591.length co29 : Value).ownBlock)) (by (with_reducible repeat (first | apply Kd.R_alloc | apply Kd.R_drewN | apply Kd.R_drew)); exact Kd.R_mono HO_3.out (fun _ hk => ⟨hk.1.2, hk.2⟩)) hg hat); have n1_ := Aside0.mk (Kd.R_after (ok := (fun k_ => some k_ ≠ (.slice (some ad581) x3_1.length co20 : Value).ownBlock)) (by (with_reducible repeat (first | apply Kd.R_alloc | apply Kd.R_drewN | apply Kd.R_drew)); exact HO593.out) hg hat); have n2_ := Aside0.mk (hb); have n3_ := Aside0.mk ((show Kd.C (Kd.int .i64) w28 A22 y587.length y587 from by rw [Ny587.out, KA22.out]; exact Kd.C_drop (m := (x5_2 : Int).toNat) (c := co20) ((Kd.R_reads' (Kd.R_after (ok := (fun k_ => some k_ ≠ (.slice Ao29 y591.length co29 : Value).ownBlock)) (by (with_reducible repeat (first | apply Kd.R_alloc | apply Kd.R_drewN | apply Kd.R_drew)); exact Kd.R_mono HO_3.out (fun _ hk => ⟨hk.1.2, hk.2⟩)) hg hat)).2.2) KL22.out ((Kd.R_reads' (Kd.R_after (ok := (fun k_ => some k_ ≠ (.slice Ao29 y591.length co29 : Value).ownBlock)) (by (with_reducible repeat (first | apply Kd.R_alloc | apply Kd.R_drewN | apply Kd.R_drew)); exact Kd.R_mono HO_3.out (fun _ hk => ⟨hk.1.2, hk.2⟩)) hg hat)).2.1))); have n4_ := Aside0.mk ((show Kd.C (Kd.int .i64) w28 (some ad581) y594.length y594 from by rw [Ny594.out]; exact Kd.C_take (m := (x5_2 : Int).toNat) ((Kd.R_reads' (Kd.R_after (ok := (fun k_ => some k_ ≠ (.slice Ao29 y591.length co29 : Value).ownBlock)) (by (with_reducible repeat (first | apply Kd.R_alloc | apply Kd.R_drewN | apply Kd.R_drew)); exact Kd.R_mono HO_3.out (fun _ hk => ⟨hk.1.2, hk.2⟩)) hg hat)).2.2) KL26.out)); have n5_ := Aside0.mk (ho); clear HO_3; clear HO593; clear HB; clear HR590; clear HR597; clear HO600; have HO_3 := n0_; have HO593 := n1_; have HB := n2_; have HR590 := n3_; have HR597 := n4_; have HO603 := n5_; clear n0_ n1_ n2_ n3_ n4_ n5_; clear ho hb hg hat))
              go_roundg k2
              case measure => have := HK1.out; have := HK2.out; omega
              case rel => exact ⟨(y601), (wrap64 (x4_1 + 1)), (by first | rfl | (simp; done) | (simp [*]; done)), H', ⟨by have := HK1.out; have := HK2.out; omega⟩, ⟨by (with_reducible repeat (first | apply Kd.R_alloc | apply Kd.R_drewN | apply Kd.R_drew)); exact Kd.R_mono HO603.out (fun _ hk => trivial)⟩, ⟨bl⟩⟩
             ·exact absurd H (by simp)
            ·exact absurd H (by simp)
           ·exact absurd H (by simp)
         ·exact absurd H (by simp)
        ·exact absurd H (by simp)
       ·exact absurd H (by simp)
      ·have c5b0 := decide_eq_false c5
       clear c5
       replace H := ii H
       rcases H with ⟨c30, H⟩ | ⟨c30, H⟩
       ·have c30b0 := decide_eq_true c30
        clear c30
        replace H := ii H
        rcases H with ⟨c31, H⟩ | ⟨c31, H⟩
        ·have c31b0 := decide_eq_true c31
         clear c31
         obtain ⟨y605, hy605⟩ : ∃ y_ : List Int, y_ = (([rd l0 x4_1] : List Int)) := ⟨_, rfl⟩
         replace H : (if 0 ≤ x5_2 then (if x5_2 ≤ (x3_1.length : Int) then ((some (x3_1.drop (x5_2 : Int).toNat : List Int)).bind fun y608 => (if y605.length + y608.length < 17592186044416 then ((some (y605 ++ y608 : List Int)).bind fun y612 => ((spec_l01Own.f (x3_1.take (x5_2 : Int).toNat)).bind fun t619 => (if t619.length + y612.length < 17592186044416 then (spec_l03Sorted.l0 k2 l0 (t619 ++ y612) (wrap64 (x4_1 + 1))) else (none)))) else (none))) else (none)) else (none)) = some r := by first | exact hy605 ▸ H | exact H
         have Ny605 := Aside0.mk hy605
         clear hy605
         replace H := ii H
         rcases H with ⟨c32, H⟩ | ⟨c32, H⟩
         ·have c32b0 := eq_true c32
          have c32b1 := decide_eq_true c32
          clear c32
          replace H := ii H
          rcases H with ⟨c33, H⟩ | ⟨c33, H⟩
          ·have c33b0 := eq_true c33
           have c33b1 := decide_eq_true c33
           clear c33
           obtain ⟨y608, hy608⟩ : ∃ y_ : List Int, y_ = (x3_1.drop (x5_2 : Int).toNat) := ⟨_, rfl⟩
           replace H : (if y605.length + y608.length < 17592186044416 then ((some (y605 ++ y608 : List Int)).bind fun y612 => ((spec_l01Own.f (x3_1.take (x5_2 : Int).toNat)).bind fun t619 => (if t619.length + y612.length < 17592186044416 then (spec_l03Sorted.l0 k2 l0 (t619 ++ y612) (wrap64 (x4_1 + 1))) else (none)))) else (none)) = some r := by first | exact hy608 ▸ H | exact H
           have Ny608 := Aside0.mk hy608
           clear hy608
           replace H := ii H
           rcases H with ⟨c34, H⟩ | ⟨c34, H⟩
           ·have LMc34 := Aside0.mk c34
            clear c34
            obtain ⟨y612, hy612⟩ : ∃ y_ : List Int, y_ = (y605 ++ y608) := ⟨_, rfl⟩
            replace H : ((spec_l01Own.f (x3_1.take (x5_2 : Int).toNat)).bind fun t619 => (if t619.length + y612.length < 17592186044416 then (spec_l03Sorted.l0 k2 l0 (t619 ++ y612) (wrap64 (x4_1 + 1))) else (none))) = some r := by first | exact hy612 ▸ H | exact H
            have Ny612 := Aside0.mk hy612
            clear hy612
            have c35b0 := eq_true (of_decide_eq_true (by first | (with_reducible assumption) | assumption) : 0 ≤ x5_2)
            have c36b0 := eq_true (of_decide_eq_true (by first | (with_reducible assumption) | assumption) : x5_2 ≤ (x3_1.length : Int))
            obtain ⟨y615, hy615⟩ : ∃ y_ : List Int, y_ = (x3_1.take (x5_2 : Int).toNat) := ⟨_, rfl⟩
            replace H : ((spec_l01Own.f y615).bind fun t619 => (if t619.length + y612.length < 17592186044416 then (spec_l03Sorted.l0 k2 l0 (t619 ++ y612) (wrap64 (x4_1 + 1))) else (none))) = some r := by first | exact hy615 ▸ H | exact H
            have Ny615 := Aside0.mk hy615
            clear hy615
            replace H := zi H
            obtain ⟨t619, A37, H⟩ := H
            try dsimp only at H
            replace H := ii H
            rcases H with ⟨c38, H⟩ | ⟨c38, H⟩
            ·have LMc38 := Aside0.mk c38
             clear c38
             obtain ⟨y622, hy622⟩ : ∃ y_ : List Int, y_ = (t619 ++ y612) := ⟨_, rfl⟩
             replace H : (spec_l03Sorted.l0 k2 l0 y622 (wrap64 (x4_1 + 1))) = some r := by first | exact hy622 ▸ H | exact H
             have Ny622 := Aside0.mk hy622
             clear hy622
             have H' := Aside0.mk H
             clear H
             try go_wp2
             replace HO_3 := Aside0.mk (Kd.R_drew HO_3.out)
             replace HB := Aside0.mk (below_drew1 HB.out)
             obtain ⟨Ao40, co40, eo40⟩ := Kd.R_slice HO_3.out
             (first | subst eo40 | (injection eo40 with f1_ f2_ f3_; have f4_ := f1_.symm; have f5_ := f3_.symm; clear f1_ f2_ f3_; subst f4_; subst f5_))
             refine sw 15 (fun w' => True) spec_l03Sorted.tab6 spec_l03Sorted.bits6 trivial (fun hHeld HT_ HW_ => ?_)
             generalize wr.drew = w39 at HO_3 HB hHeld ⊢
             refine pu 0 (some 14) (tA 15 1) HT_ ?_
             refine pu 1 (some 15) (tA 15 3) HT_ ?_
             refine pu 2 (some 16) (tA 15 7) HT_ ?_
             refine pu 3 (some 17) (tA 15 15) HT_ ?_
             refine pu 4 (some 18) (tA 15 31) HT_ ?_
             refine pv 5 (some 19) (tA 15 63) HT_ ?_
             refine pv 6 (some 20) (tA 15 127) HT_ ?_
             refine pv 7 (some 21) (tA 15 255) HT_ ?_
             refine pv 8 (some 22) (tA 15 511) HT_ ?_
             refine pv 9 (some 23) (tA 15 1023) HT_ ?_
             refine pv 10 (some 24) (tA 15 2047) HT_ ?_
             refine pv 11 (some 25) (tA 15 4095) HT_ ?_
             refine pv 12 (some 26) (tA 15 8191) HT_ ?_
             refine pv 13 (some 27) (tA 15 16383) HT_ ?_
             refine pu 14 (some 28) (tA 15 32767) HT_ ?_
             refine done_ (done_of HT_.out (by kernel_rfl)) ?_
             try go_wp2
             replace HO_3 := Aside0.mk (Kd.R_drew HO_3.out)
             replace HB := Aside0.mk (below_drew1 HB.out)
             have p604 : 0 ≤ (x4_1 : Int) := za
             have q604 : x4_1 < (l0.length : Int) := za
             obtain ⟨ad604, e604, hx604_0⟩ := Kd.at_int HR0.out x4_1 p604 q604
             have hw604_0 := hx604_0
             cases e604
             replace hx604_0 := (HB.out.cell (World.block_lt_of_cell? w _ hx604_0)).trans hx604_0
             replace p604 := eq_true p604
             replace q604 := eq_true q604
             have q42 : (x5_2 : Int) ≤ ((x3_1.length : Int) : Int) := za
             obtain ⟨i042, hi042, _, hsz42, _⟩ := info_parts info2
             have hroom42 : x3_1.length ≤ co40 := (Kd.R_reads' HO_3.out).2.1
             have hC42 : Kd.C (Kd.int .i64) _ Ao40 x3_1.length x3_1 := (Kd.R_reads' HO_3.out).2.2
             have q042 : (0 : Int) ≤ (x5_2 : Int) := za
             have hcut42 := cut_from (P := Try.prog) 63 2 .i64 Try.underlying63 hi042 1 hsz42 Ao40 x3_1.length co40 x5_2 q042 q42
             have hr42 := Kd.C_drop (m := (x5_2 : Int).toNat) (c := co40) hC42 (by omega) hroom42
             obtain ⟨A42, hA42⟩ : ∃ A1, A1 = (if co40 = (x5_2 : Int).toNat then Ao40 else (Ao40 : Option Addr).map (·.add ((x5_2 : Int).toNat * 1))) := ⟨_, rfl⟩
             obtain ⟨c42, hc42⟩ : ∃ c1, c1 = co40 - (x5_2 : Int).toNat := ⟨_, rfl⟩
             have hy42 : y608.length = x3_1.length - (x5_2 : Int).toNat := (by rw [Ny608.out, List.length_drop] <;> omega)
             rw [show (x3_1).drop (x5_2 : Int).toNat = y608 from Ny608.out.symm] at hr42
             replace hr42 : Kd.C (Kd.int .i64) _ A42 y608.length y608 := (by rw [hA42]; exact hr42)
             rw [← hy42, ← hA42, ← hc42] at hcut42
             have HR611 := Aside0.mk hr42
             have HC611 := Aside0.mk (show y608.length ≤ c42 from by rw [hy42, hc42]; exact Nat.sub_le_sub_right hroom42 _)
             clear hr42 hC42 hroom42 hi042 hsz42 hc42
             have KY42 := Aside0.mk hy42
             have KA42 := Aside0.mk hA42
             clear hy42 hA42
             have KL42 := Aside0.mk (show (x5_2 : Int).toNat ≤ x3_1.length from by omega)
             replace q42 := eq_true q42
             refine sw 10 (fun w' => w'.cell? (ad604.add (x4_1).toNat) = some (.int .i64 (rd l0 x4_1))) spec_l03Sorted.tab8 spec_l03Sorted.bits8 (((HB.out.cell (World.block_lt_of_cell? w _ hw604_0)).trans hw604_0)) (fun hHeld HT_ HW_ => ?_)
             generalize w39.drew = w41 at HO_3 HB HR611 hx604_0 hHeld ⊢
             refine pu 0 (some 31) (tA 10 1) HT_ ?_
             refine pu 1 (some 32) (tA 10 3) HT_ ?_
             refine pu 2 (some 33) (tA 10 7) HT_ ?_
             refine pu 5 (some 36) (tA 10 39) HT_ ?_
             refine pu 6 (some 37) (tA 10 103) HT_ ?_
             refine pu 7 (some 38) (tA 10 231) HT_ ?_
             refine take_ (i := 3) (N := some 34) (v := ?_) (a' := ?_) (tA 10 239) rfl rfl (take_ofW HT_.out HW_.out (by kernel_rfl)) (fun _ _ _ h => h) (Or.inl ⟨by rfl, ?_⟩) hHeld ?_ ?_
             rotate_left
             ·intro w' s0
              go_simp
              with_reducible rfl
             rotate_left
             ·simp only [Act.put, zq, zr, zt, i64_w, i32_w]
              rfl
             refine o1 4 (some 35) (tA 10 255) HT_ (fun K hK => ?_)
             refine Kd.R_lit_step (Kd.int .i64) _ 2 ?hg (N := 35) ?hd (xs := ([rd l0 x4_1] : List Int)) (inner := [.int .i64 (rd l0 x4_1)]) (ok := fun _ => True) (okp := fun _ => True) ?hr ?hp (fun _ hk => hk) trivial (Below.refl _ _) (Nat.le_refl _) (by simp) ?_; (case hd => rfl); (case hg => rfl); (case hr => first | (go_simp; done) | (go_simp; rfl)); (case hp => exact (Reps.one (show Kd.M (Kd.int .i64) _ _ _ (rd l0 x4_1) [.int .i64 (rd l0 x4_1)] from rfl) (Reps.none _ _)))
             intro v606 w43 ho44 hb hg_ hnew_
             clear hg_ hnew_
             (first | rw [← Ny605.out] at ho44 | (simp only [Int.reduceToNat] at ho44; rw [← Ny605.out] at ho44))
             have HO607 := Aside0.mk (Kd.R_lower (Kd.R_new' ho44 (Kd.R_lt (by (with_reducible repeat (first | apply Kd.R_alloc | apply Kd.R_drewN | apply Kd.R_drew)); exact HO_3.out))) (below_size (bl)))
             replace HO_3 := Aside0.mk (Kd.R_elder' (by (with_reducible repeat (first | apply Kd.R_alloc | apply Kd.R_drewN | apply Kd.R_drew)); exact HO_3.out) (Kd.R_base ho44) hb)
             replace HR611 := Aside0.mk (Kd.C_below (by repeat (first | (with_reducible exact HR611.out) | (with_reducible refine Kd.C_alloc ?_ _) | (with_reducible refine Kd.C_drewN ?_ _) | (with_reducible refine Kd.C_drew ?_) | exact HR611.out)) hb)
             replace HB := bs hb
             clear hb ho44
             refine hK.out _ _ (((HB.out.cell (World.block_lt_of_cell? w _ hw604_0)).trans hw604_0)) (fun hHeld => ?_)
             clear hK K
             refine nm (some 35) ?_
             refine o1 8 (some 39) (tA 10 511) HT_ (fun K hK => ?_)
             refine Kd.R_append_rows_step (Kd.int .i64) (w0 := w) w.heap.size (by rfl) (.tmp 35) (.tmp 38) 63 2 (.int .i64 0) 8 rfl Try.underlying63 info2 rfl (by decide) (by omega) v606 y605 y608 _ _ _ (fun k_ => some k_ ≠ (.slice Ao40 x3_1.length co40 : Value).ownBlock) (fun _ => False) rfl rfl ?aO ?aR (fun _ _ h => h) (fun _ h => h.elim) ?aF ?aB ?aS ?aL ?_
             (case aR => repeat (first | exact (by repeat (first | (with_reducible exact HR611.out) | (with_reducible refine Kd.C_alloc ?_ _) | (with_reducible refine Kd.C_drewN ?_ _) | (with_reducible refine Kd.C_drew ?_) | exact HR611.out)) | (with_reducible refine Kd.C_alloc ?_ _) | (with_reducible refine Kd.C_drewN ?_ _) | (with_reducible refine Kd.C_drew ?_)))
             (case aB => exact (bl))
             (case aF => exact (fun k_ hk => Kd.fresh' (Kd.R_lt (by (with_reducible repeat (first | apply Kd.R_alloc | apply Kd.R_drewN | apply Kd.R_drew)); exact HO_3.out)) k_ hk))
             (case aO => exact (by (with_reducible repeat (first | apply Kd.R_alloc | apply Kd.R_drewN | apply Kd.R_drew)); exact Kd.R_mono HO607.out (fun _ hk => hk.2)))
             (case aS => exact (below_size (bl)))
             (case aL => have := LMc34.out; omega)
             intro v613 w45 ho hb hg hat
             rw [← Ny612.out] at ho
             have n0_ := Aside0.mk (Kd.R_after (ok := (fun _ => True)) (by (with_reducible repeat (first | apply Kd.R_alloc | apply Kd.R_drewN | apply Kd.R_drew)); exact HO_3.out) hg hat)
             have n1_ := Aside0.mk (hb)
             have n2_ := Aside0.mk ((show Kd.C (Kd.int .i64) w45 A42 y608.length y608 from by rw [Ny608.out, KA42.out]; exact Kd.C_drop (m := (x5_2 : Int).toNat) (c := co40) ((Kd.R_reads' (Kd.R_after (ok := (fun _ => True)) (by (with_reducible repeat (first | apply Kd.R_alloc | apply Kd.R_drewN | apply Kd.R_drew)); exact HO_3.out) hg hat)).2.2) KL42.out ((Kd.R_reads' (Kd.R_after (ok := (fun _ => True)) (by (with_reducible repeat (first | apply Kd.R_alloc | apply Kd.R_drewN | apply Kd.R_drew)); exact HO_3.out) hg hat)).2.1)))
             have n3_ := Aside0.mk (ho)
             clear HO_3
             clear HB
             clear HR611
             clear HO607
             have HO_3 := n0_
             have HB := n1_
             have HR611 := n2_
             have HO614 := n3_
             clear n0_ n1_ n2_ n3_
             clear ho hb hg hat
             refine hK.out _ _ (((HB.out.cell (World.block_lt_of_cell? w _ hw604_0)).trans hw604_0)) (fun hHeld => ?_)
             clear hK K
             refine nm (some 39) ?_
             refine pu 9 (some 6) (tA 10 1023) HT_ ?_
             refine done_ (done_of HT_.out (by kernel_rfl)) ?_
             have q46 : (x5_2 : Int) ≤ ((x3_1.length : Int) : Int) := za
             obtain ⟨i046, hi046, _, hsz46, _⟩ := info_parts info2
             have hroom46 : x3_1.length ≤ co40 := (Kd.R_reads' HO_3.out).2.1
             have hC46 : Kd.C (Kd.int .i64) _ Ao40 x3_1.length x3_1 := (Kd.R_reads' HO_3.out).2.2
             have hcut46 := cut_to (P := Try.prog) 63 2 .i64 Try.underlying63 hi046 Ao40 x3_1.length co40 x5_2 (of_decide_eq_true (by first | (with_reducible assumption) | assumption)) q46 hroom46
             have hr46 := Kd.C_take (m := (x5_2 : Int).toNat) hC46 (by omega)
             have hy46 : y615.length = (x5_2 : Int).toNat := (by rw [Ny615.out, List.length_take]; omega)
             rw [← Ny615.out] at hr46
             rw [← hy46] at hcut46
             have HR618 := Aside0.mk hr46
             have HC618 := Aside0.mk (show y615.length ≤ co40 from by omega)
             clear hr46 hC46 hroom46 hi046 hsz46
             have KY46 := Aside0.mk hy46
             clear hy46
             have KL46 := Aside0.mk (show (x5_2 : Int).toNat ≤ x3_1.length from by omega)
             replace q46 := eq_true q46
             try go_wp2_with (first | ((with_reducible refine zf 70 rfl ?_); refine g1 (some 43) Try.func70 #[.slice Ao40 y615.length co40] ?_; (with_reducible refine (spec_l01Own.calls _ _ y615 t619 _ ?side1 ?side2 A37.out).mono ?_); (case side1 => repeat (first | exact (by repeat (first | (with_reducible exact HR618.out) | (with_reducible refine Kd.C_alloc ?_ _) | (with_reducible refine Kd.C_drewN ?_ _) | (with_reducible refine Kd.C_drew ?_) | exact HR618.out)) | (with_reducible refine Kd.C_alloc ?_ _) | (with_reducible refine Kd.C_drewN ?_ _) | (with_reducible refine Kd.C_drew ?_))); (case side2 => exact HC618.out); rintro e w47 ⟨v620, rfl, ho0, hb⟩; refine ⟨_, rfl, ?_⟩; have HO621 := Aside0.mk (Kd.R_lower (Kd.R_new' (Kd.R_new' ho0 (Kd.R_lt (by (with_reducible repeat (first | apply Kd.R_alloc | apply Kd.R_drewN | apply Kd.R_drew)); exact HO_3.out))) (Kd.R_lt (by (with_reducible repeat (first | apply Kd.R_alloc | apply Kd.R_drewN | apply Kd.R_drew)); exact HO614.out))) (below_size (bl))); replace HO_3 := Aside0.mk (Kd.R_elder' (by (with_reducible repeat (first | apply Kd.R_alloc | apply Kd.R_drewN | apply Kd.R_drew)); exact HO_3.out) (Kd.R_base ho0) hb); replace HO614 := Aside0.mk (Kd.R_elder' (by (with_reducible repeat (first | apply Kd.R_alloc | apply Kd.R_drewN | apply Kd.R_drew)); exact HO614.out) (Kd.R_base ho0) hb); replace HR611 := Aside0.mk (Kd.C_below (by repeat (first | (with_reducible exact HR611.out) | (with_reducible refine Kd.C_alloc ?_ _) | (with_reducible refine Kd.C_drewN ?_ _) | (with_reducible refine Kd.C_drew ?_) | exact HR611.out)) hb); replace HR618 := Aside0.mk (Kd.C_below (by repeat (first | (with_reducible exact HR618.out) | (with_reducible refine Kd.C_alloc ?_ _) | (with_reducible refine Kd.C_drewN ?_ _) | (with_reducible refine Kd.C_drew ?_) | exact HR618.out)) hb); replace HB := bs hb; (try clear hb); (try clear hb2); (try clear hk); (try clear hi); (try clear ho0); obtain ⟨Ao49, co49, eo49⟩ := Kd.R_slice HO614.out; subst eo49) | ((with_reducible refine gate_builtin (b := .append) (xs := #[.tmp 43, .tmp 44]) rfl ?_); at_builtin; refine Kd.R_append_rows (Kd.int .i64) (w0 := w) w.heap.size rfl (.tmp 43) (.tmp 44) 63 2 (.int .i64 0) 8 rfl Try.underlying63 info2 rfl (by decide) (by omega) v620 t619 y612 _ _ _ (fun k_ => some k_ ≠ (.slice Ao40 x3_1.length co40 : Value).ownBlock ∧ some k_ ≠ (.slice Ao49 y612.length co49 : Value).ownBlock) (fun _ => False) rfl rfl ?aO ?aR (fun _ _ h => h) (fun _ h => h.elim) ?aF ?aB ?aS ?aL ?_; (case aR => repeat (first | exact (Kd.R_reads' HO614.out).2.2 | (with_reducible refine Kd.C_alloc ?_ _) | (with_reducible refine Kd.C_drewN ?_ _) | (with_reducible refine Kd.C_drew ?_))); (case aB => exact (bl)); (case aF => exact (fun k_ hk => ⟨Kd.fresh' (Kd.R_lt (by (with_reducible repeat (first | apply Kd.R_alloc | apply Kd.R_drewN | apply Kd.R_drew)); exact HO_3.out)) k_ hk, Kd.fresh' (Kd.R_lt (by (with_reducible repeat (first | apply Kd.R_alloc | apply Kd.R_drewN | apply Kd.R_drew)); exact HO614.out)) k_ hk⟩)); (case aO => exact (by (with_reducible repeat (first | apply Kd.R_alloc | apply Kd.R_drewN | apply Kd.R_drew)); exact Kd.R_mono HO621.out (fun _ hk => ⟨hk.1.2, hk.2⟩))); (case aS => exact (below_size (bl))); (case aL => have := LMc38.out; omega); intro v623 w48 ho hb hg hat; rw [← Ny622.out] at ho; have n0_ := Aside0.mk (Kd.R_after (ok := (fun k_ => some k_ ≠ (.slice Ao49 y612.length co49 : Value).ownBlock)) (by (with_reducible repeat (first | apply Kd.R_alloc | apply Kd.R_drewN | apply Kd.R_drew)); exact Kd.R_mono HO_3.out (fun _ hk => ⟨hk.1.2, hk.2⟩)) hg hat); have n1_ := Aside0.mk (Kd.R_after (ok := (fun k_ => some k_ ≠ (.slice Ao40 x3_1.length co40 : Value).ownBlock)) (by (with_reducible repeat (first | apply Kd.R_alloc | apply Kd.R_drewN | apply Kd.R_drew)); exact HO614.out) hg hat); have n2_ := Aside0.mk (hb); have n3_ := Aside0.mk ((show Kd.C (Kd.int .i64) w48 A42 y608.length y608 from by rw [Ny608.out, KA42.out]; exact Kd.C_drop (m := (x5_2 : Int).toNat) (c := co40) ((Kd.R_reads' (Kd.R_after (ok := (fun k_ => some k_ ≠ (.slice Ao49 y612.length co49 : Value).ownBlock)) (by (with_reducible repeat (first | apply Kd.R_alloc | apply Kd.R_drewN | apply Kd.R_drew)); exact Kd.R_mono HO_3.out (fun _ hk => ⟨hk.1.2, hk.2⟩)) hg hat)).2.2) KL42.out ((Kd.R_reads' (Kd.R_after (ok := (fun k_ => some k_ ≠ (.slice Ao49 y612.length co49 : Value).ownBlock)) (by (with_reducible repeat (first | apply Kd.R_alloc | apply Kd.R_drewN | apply Kd.R_drew)); exact Kd.R_mono HO_3.out (fun _ hk => ⟨hk.1.2, hk.2⟩)) hg hat)).2.1))); have n4_ := Aside0.mk ((show Kd.C (Kd.int .i64) w48 Ao40 y615.length y615 from by rw [Ny615.out]; exact Kd.C_take (m := (x5_2 : Int).toNat) ((Kd.R_reads' (Kd.R_after (ok := (fun k_ => some k_ ≠ (.slice Ao49 y612.length co49 : Value).ownBlock)) (by (with_reducible repeat (first | apply Kd.R_alloc | apply Kd.R_drewN | apply Kd.R_drew)); exact Kd.R_mono HO_3.out (fun _ hk => ⟨hk.1.2, hk.2⟩)) hg hat)).2.2) KL46.out)); have n5_ := Aside0.mk (ho); clear HO_3; clear HO614; clear HB; clear HR611; clear HR618; clear HO621; have HO_3 := n0_; have HO614 := n1_; have HB := n2_; have HR611 := n3_; have HR618 := n4_; have HO624 := n5_; clear n0_ n1_ n2_ n3_ n4_ n5_; clear ho hb hg hat))
             go_roundg k2
             case measure => have := HK1.out; have := HK2.out; omega
             case rel => exact ⟨(y622), (wrap64 (x4_1 + 1)), (by first | rfl | (simp; done) | (simp [*]; done)), H', ⟨by have := HK1.out; have := HK2.out; omega⟩, ⟨by (with_reducible repeat (first | apply Kd.R_alloc | apply Kd.R_drewN | apply Kd.R_drew)); exact Kd.R_mono HO624.out (fun _ hk => trivial)⟩, ⟨bl⟩⟩
            ·exact absurd H (by simp)
           ·exact absurd H (by simp)
          ·exact absurd H (by simp)
         ·exact absurd H (by simp)
        ·exact absurd H (by simp)
       ·exact absurd H (by simp)
   ·have c4b0 := decide_eq_false c4
    clear c4
    obtain rfl := Option.some.inj H
    go_wp2
    go_ret
    exact ⟨_, er, by (with_reducible repeat (first | apply Kd.R_alloc | apply Kd.R_drewN | apply Kd.R_drew)); exact HO_3.out, bl⟩

end Go.Proofs.Ytkfodnlogflcpaa.PFnLattices

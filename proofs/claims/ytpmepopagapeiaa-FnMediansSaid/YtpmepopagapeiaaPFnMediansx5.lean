-- Printed by the kit's print and repaired by a program of this session.
import Derived.Test.YtpmepopagapeiaaPFnMediansx0
import Derived.Test.YtpmepopagapeiaaPFnMediansx2
import Derived.Test.YtpmepopagapeiaaPFnMediansx4
namespace Go.Proofs.Ytpmepopagapeiaa.PFnMedians
open Go.RowKit Go.Proofs.YtpmepopagapeiaaW.PrintWords Go.Proofs.YtpmepopagapeiaaW.PrintLast Go.Proofs.YtpmepopagapeiaaW.PrintMore
attribute [local go_sem] max2_int min2_int max_two min_two max_three min_three max_four min_four
set_option linter.unusedVariables false
set_option linter.unusedSimpArgs false

/-! ### spec_SphereAround: function 19 -/
mutual
def spec_SphereAround.j0 : Nat → Int → Int → Int → Bool → Int → Int → Int → Option ((List (S27)) × Int)
 | 0, _, _, _, _, _, _, _ => none
 | k + 1, x0, x2, x8, x26, x187000, x187001, x187002 => if x26 = true then (spec_SphereAround.j1 k x0 x2 2 x187000 x187001 x187002) else (spec_SphereAround.j1 k x0 x2 x8 x187000 x187001 x187002)
def spec_SphereAround.j1 : Nat → Int → Int → Int → Int → Int → Int → Option ((List (S27)) × Int)
 | 0, _, _, _, _, _, _ => none
 | k + 1, x0, x2, x8, x187000, x187001, x187002 => if x8 = 0 then (spec_SphereAround.l0 k x0 x2 (([(⟨x187000, x187001, x187002⟩ : S27)] : List (S27))) 1 x187000 x187001 x187002) else (some (([] : List (S27)), x8))
def spec_SphereAround.l0 : Nat → Int → Int → List (S27) → Int → Int → Int → Int → Option ((List (S27)) × Int)
 | 0, _, _, _, _, _, _, _ => none
 | k + 1, x0, x2, x9, x10, x187000, x187001, x187002 => if x10 ≤ x2 then (spec_SphereAround.l1 k x0 x2 x9 x10 (([] : List (S27))) 0 x187000 x187001 x187002) else (some (x9, 0))
def spec_SphereAround.l1 : Nat → Int → Int → List (S27) → Int → List (S27) → Int → Int → Int → Int → Option ((List (S27)) × Int)
 | 0, _, _, _, _, _, _, _, _, _ => none
 | k + 1, x0, x2, x9, x10, x11, x12, x187000, x187001, x187002 => if x12 < (x9.length : Int) then (if 0 ≤ x12 then ((spec_l02Near.f k x0 ((rd_T27 x9 x12).f0) ((rd_T27 x9 x12).f1) ((rd_T27 x9 x12).f2)).bind fun bt199 => (if bt199.2 = true then (spec_SphereAround.l2 k x0 x2 x9 x10 x11 x12 bt199.1 0 x187000 x187001 x187002) else (some (([] : List (S27)), 3)))) else (none)) else (spec_SphereAround.l0 k x0 x2 x11 (wrap64 (x10 + 1)) x187000 x187001 x187002)
def spec_SphereAround.l2 : Nat → Int → Int → List (S27) → Int → List (S27) → Int → List (S27) → Int → Int → Int → Int → Option ((List (S27)) × Int)
 | 0, _, _, _, _, _, _, _, _, _, _, _ => none
 | k + 1, x0, x2, x9, x10, x11, x12, x13, x15, x187000, x187001, x187002 => if x15 < (x13.length : Int) then (if 0 ≤ x15 then ((spec_l02Distance.f k x0 x187000 x187001 x187002 ((rd_T27 x13 x15).f0) ((rd_T27 x13 x15).f1) ((rd_T27 x13 x15).f2)).bind fun t204 => (if t204 = x10 then (if x11.length < 5864062014805 then (spec_SphereAround.l2 k x0 x2 x9 x10 (x11 ++ [(⟨(rd_T27 x13 x15).f0, (rd_T27 x13 x15).f1, (rd_T27 x13 x15).f2⟩ : S27)]) x12 x13 (wrap64 (x15 + 1)) x187000 x187001 x187002) else (none)) else (spec_SphereAround.l2 k x0 x2 x9 x10 x11 x12 x13 (wrap64 (x15 + 1)) x187000 x187001 x187002))) else (none)) else (spec_SphereAround.l1 k x0 x2 x9 x10 x11 (wrap64 (x12 + 1)) x187000 x187001 x187002)
end
def spec_SphereAround.f (k : Nat) (a0 : Int) (a1_0 : Int) (a1_1 : Int) (a1_2 : Int) (a2 : Int) : Option ((List (S27)) × Int) := (spec_l01Code.f k a0 (([(⟨a1_0, a1_1, a1_2⟩ : S27)] : List (S27)))).bind fun t190 => (if t190 = 0 then ((spec_l01In.f a2 0 4).bind fun t191 => (spec_SphereAround.j0 k a0 a2 t190 (!t191) a1_0 a1_1 a1_2)) else (spec_SphereAround.j0 k a0 a2 t190 false a1_0 a1_1 a1_2))
def spec_SphereAround.T20 : Bool × List (List Nat × List Nat) := (true, [([], []), ([], []), ([], []), ([], []), ([2, 3], [2, 3]), ([4], [4]), ([0, 1, 5], [0, 1, 5]), ([], []), ([6, 7], [6, 7])])
def spec_SphereAround.B20 : List Nat := [0, 0, 0, 0, 12, 28, 63, 0, 255]
theorem spec_SphereAround.tab20 : rtab .any (opsOf Try.f19 20) = spec_SphereAround.T20 := by kernel_rfl
theorem spec_SphereAround.bits20 : waitsOk spec_SphereAround.T20.2 spec_SphereAround.B20 = true := by kernel_rfl
set_option maxHeartbeats 8000000 in
set_option maxRecDepth 100000 in
theorem spec_SphereAround.calls (k : Nat) (a0 : Int) (a1_0 : Int) (a1_1 : Int) (a1_2 : Int) (a2 : Int) (r1 : List (S27)) (r2 : Int) (w : World) (h : spec_SphereAround.f k a0 a1_0 a1_1 a1_2 a2 = some (r1, r2)) :
  Calls Try.prog 19 #[.int .i64 a0, .agg #[.int .i64 a1_0, .int .i64 a1_1, .int .i64 a1_2], .int .i64 a2] w fun e w' => ∃ v0_ : Value, e = .returned (.tuple #[v0_, .int .i64 r2]) ∧ Kd.R k27 27 w' w.heap.size (fun _ => True) v0_ r1 ∧ Below w.heap.size w w' := by
 have hu27 := Try.underlying27
 have HB := Aside0.mk (Below.refl w.heap.size w)
 unfold spec_SphereAround.f at h
 have H := h
 clear h
 obtain ⟨y187, hy187⟩ : ∃ y_ : List (S27), y_ = (([(⟨a1_0, a1_1, a1_2⟩ : S27)] : List (S27))) := ⟨_, rfl⟩
 replace H : ((spec_l01Code.f k a0 y187).bind fun t190 => (if t190 = 0 then ((spec_l01In.f a2 0 4).bind fun t191 => (spec_SphereAround.j0 k a0 a2 t190 (!t191) a1_0 a1_1 a1_2)) else (spec_SphereAround.j0 k a0 a2 t190 false a1_0 a1_1 a1_2))) = some (r1, r2) := by first | exact hy187 ▸ H | exact H
 have Ny187 := Aside0.mk hy187
 clear hy187
 replace H := zi H
 obtain ⟨t190, A4, H⟩ := H
 try dsimp only at H
 have HC5 := Aside0.mk H
 clear H
 go_enter Try.func19, Try.ntmps19
 go_upto_region 2 with (first | ((with_reducible refine zg 4 rfl ?_); refine z3 4 27 a1_0 a1_1 a1_2 ?_; intro gb186 hg w6 BK186 hb; have GW186 := sg hg; replace HB := bs hb; clear hb hg; obtain ⟨hcz7_0, hcz7_1, hcz7_2, hfz7_0, hfz7_1, hfz7_2⟩ := cq3 BK186) | ((with_reducible refine zg 18 rfl ?_); refine Kd.R_lit k27 _ 27 ?hg (N := 18) ?hd (xs := ([(⟨a1_0, a1_1, a1_2⟩ : S27)] : List (S27))) (inner := [.int .i64 a1_0, .int .i64 a1_1, .int .i64 a1_2]) (ok := fun _ => True) (okp := fun _ => True) ?hr ?hp (fun _ hk => hk) trivial (Below.refl _ _) (Nat.le_refl _) (by simp) ?_; (case hd => rfl); (case hg => rfl); (case hr => first | (go_simp; done) | (go_simp; rfl)); (case hp => exact (Reps.c3 (show Kd.M k27 _ _ _ (⟨a1_0, a1_1, a1_2⟩ : S27) [.int .i64 a1_0, .int .i64 a1_1, .int .i64 a1_2] from (k27_mkM _ _ _ (⟨a1_0, a1_1, a1_2⟩ : S27) )) (Reps.none _ _))); intro v188 w8 ho9 hb hg_ hnew_; clear hg_ hnew_; (first | rw [← Ny187.out] at ho9 | (simp only [Int.reduceToNat] at ho9; rw [← Ny187.out] at ho9)); have HO189 := Aside0.mk (Kd.R_lower (Kd.R_newB ho9 (g := gb186) (o := .cells #[.int .i64 a1_0, .int .i64 a1_1, .int .i64 a1_2] 27 (0, 0)) (be BK186)) (below_size (bl))); replace BK186 := bb BK186 hb; replace HB := bs hb; clear hb ho9; obtain ⟨Ao10, co10, eo10⟩ := Kd.R_slice HO189.out; subst eo10) | ((with_reducible refine zf 81 rfl ?_); refine g1 (some 19) Try.func81 #[.int .i64 a0, .slice Ao10 y187.length co10] ?_; (with_reducible refine (spec_l01Code.calls k a0 _ _ y187 t190 _ ?side1 ?side2 A4.out).mono ?_); (case side1 => repeat (first | exact (Kd.R_reads' HO189.out).2.2 | (with_reducible refine Kd.C_alloc ?_ _) | (with_reducible refine Kd.C_drewN ?_ _) | (with_reducible refine Kd.C_drew ?_))); (case side2 => exact (Kd.R_reads' HO189.out).2.1); rintro e w11 ⟨rfl, hb⟩; refine ⟨_, rfl, ?_⟩; replace HO189 := Aside0.mk (Kd.R_below (by (with_reducible repeat (first | apply Kd.R_alloc | apply Kd.R_drewN | apply Kd.R_drew)); exact HO189.out) hb); replace BK186 := bb BK186 hb; replace HB := bs hb; (try clear hb)))
 (try simp only [Act.put, zq, zr, zt])
 go_cut [26] (fun v26 wc => ∃ (kq : Nat) (x26_4 : Bool), v26 = .bool x26_4 ∧ Aside0 (spec_SphereAround.j0 kq a0 a2 t190 x26_4 a1_0 a1_1 a1_2 = some (r1, r2)) ∧ Aside0 (kq ≤ k) ∧ Aside0 (wc.heap[gb186]? = some (.cells #[.int .i64 a1_0, .int .i64 a1_1, .int .i64 a1_2] 27 (0, 0))) ∧ Aside0 (Below w.heap.size w wc))
 case first =>
  have H := HC5.out
  clear HC5
  replace H := ii H
  rcases H with ⟨c12, H⟩ | ⟨c12, H⟩
  ·obtain ⟨c12b0, c12b1⟩ := zz c12
   clear c12
   (first | rw [c12b0] | (simp only [i64_w, i32_w]; rw [c12b0]) | skip)
   replace H := zi H
   obtain ⟨t191, A13, H⟩ := H
   try dsimp only at H
   have H' := Aside0.mk H
   clear H
   go_wp2_with (first | (go_at_call 88; (with_reducible refine (spec_l01In.calls a2 0 4 t191 _ A13.out).mono ?_); rintro e w' ⟨rfl, ⟨nd, rfl⟩⟩))
   go_meet
   case rel => exact ⟨_, (!t191), (by first | rfl | (simp; done) | (simp [*]; done)), H', ⟨by first | omega | exact Nat.le_refl _⟩, ⟨be BK186⟩, ⟨bl⟩⟩
  ·obtain ⟨c12b0, c12b1⟩ := zy c12
   (first | rw [c12b0] | (simp only [i64_w, i32_w]; rw [c12b0]) | skip)
   have H' := Aside0.mk H
   clear H
   go_wp2
   go_meet
   case rel => exact ⟨_, (false), (by first | rfl | (simp; done) | (simp [*]; done)), H', ⟨by first | omega | exact Nat.le_refl _⟩, ⟨be BK186⟩, ⟨bl⟩⟩
 case rest =>
  clear HC5
  obtain ⟨kq, x26_4, rfl, HA, HJ4, BK186, HB⟩ := hcut
  cases kq with
  | zero => exact absurd HA.out (by simp [spec_SphereAround.j0])
  | succ kj4 =>
   have H := HA.out
   clear HA
   simp only [spec_SphereAround.j0] at H
   have HC14 := Aside0.mk H
   clear H
   go_upto_if 26 with (fail)
   go_cut [8] (fun v8 wc => ∃ (kq : Nat) (x8_13 : Int), v8 = .int .i64 x8_13 ∧ Aside0 (spec_SphereAround.j1 kq a0 a2 x8_13 a1_0 a1_1 a1_2 = some (r1, r2)) ∧ Aside0 (kq ≤ kj4) ∧ Aside0 (wc.heap[gb186]? = some (.cells #[.int .i64 a1_0, .int .i64 a1_1, .int .i64 a1_2] 27 (0, 0))) ∧ Aside0 (Below w.heap.size w wc))
   case first =>
    have H := HC14.out
    clear HC14
    by_cases c15 : x26_4 = true
    ·subst c15
     rw [if_pos rfl] at H
     have H' := Aside0.mk H
     clear H
     go_wp2
     go_meet
     case rel => exact ⟨_, (2), (by first | rfl | (simp; done) | (simp [*]; done)), H', ⟨by have := HJ4.out; first | omega | exact Nat.le_refl _⟩, ⟨be BK186⟩, ⟨bl⟩⟩
    ·replace c15 := Bool.eq_false_iff.mpr c15
     subst c15
     have H1 : (spec_SphereAround.j1 kj4 a0 a2 t190 a1_0 a1_1 a1_2) = some (r1, r2) := by rw [if_neg (show ¬ (false = true) by decide)] at H; exact H
     clear H
     have H := H1
     clear H1
     have H' := Aside0.mk H
     clear H
     go_wp2
     go_meet
     case rel => exact ⟨_, (t190), (by first | rfl | (simp; done) | (simp [*]; done)), H', ⟨by have := HJ4.out; first | omega | exact Nat.le_refl _⟩, ⟨be BK186⟩, ⟨bl⟩⟩
   case rest =>
    clear HC14
    obtain ⟨kq, x8_13, rfl, HA, HJ13, BK186, HB⟩ := hcut
    cases kq with
    | zero => exact absurd HA.out (by simp [spec_SphereAround.j1])
    | succ kj13 =>
     have H := HA.out
     clear HA
     simp only [spec_SphereAround.j1] at H
     replace H := ii H
     rcases H with ⟨c16, H⟩ | ⟨c16, H⟩
     ·obtain ⟨c16b0, c16b1⟩ := zz c16
      clear c16
      obtain ⟨y192, hy192⟩ : ∃ y_ : List (S27), y_ = (([(⟨a1_0, a1_1, a1_2⟩ : S27)] : List (S27))) := ⟨_, rfl⟩
      replace H : (spec_SphereAround.l0 kj13 a0 a2 y192 1 a1_0 a1_1 a1_2) = some (r1, r2) := by first | exact hy192 ▸ H | exact H
      have Ny192 := Aside0.mk hy192
      clear hy192
      have H' := Aside0.mk H
      clear H
      obtain ⟨hcz17_0, hcz17_1, hcz17_2, hfz17_0, hfz17_1, hfz17_2⟩ := cq3 BK186
      go_wp2_with (first | ((with_reducible refine zg 31 rfl ?_); refine Kd.R_lit k27 _ 27 ?hg (N := 31) ?hd (xs := ([(⟨a1_0, a1_1, a1_2⟩ : S27)] : List (S27))) (inner := [.int .i64 a1_0, .int .i64 a1_1, .int .i64 a1_2]) (ok := fun _ => True) (okp := fun _ => True) ?hr ?hp (fun _ hk => hk) trivial (Below.refl _ _) (Nat.le_refl _) (by simp) ?_; (case hd => rfl); (case hg => rfl); (case hr => first | (go_simp; done) | (go_simp; rfl)); (case hp => exact (Reps.c3 (show Kd.M k27 _ _ _ (⟨a1_0, a1_1, a1_2⟩ : S27) [.int .i64 a1_0, .int .i64 a1_1, .int .i64 a1_2] from (k27_mkM _ _ _ (⟨a1_0, a1_1, a1_2⟩ : S27) )) (Reps.none _ _))); intro v193 w18 ho19 hb hg_ hnew_; clear hg_ hnew_; (first | rw [← Ny192.out] at ho19 | (simp only [Int.reduceToNat] at ho19; rw [← Ny192.out] at ho19)); have HO194 := Aside0.mk (Kd.R_lower (Kd.R_newB ho19 (g := gb186) (o := .cells #[.int .i64 a1_0, .int .i64 a1_1, .int .i64 a1_2] 27 (0, 0)) (be BK186)) (below_size (bl))); replace BK186 := bb BK186 hb; replace HB := bs hb; clear hb ho19))
      go_loopg [9, 10] kj13 (fun kq v9 v10 w' => ∃ (x9_3 : List (S27)) (x10_3 : Int), v10 = .int .i64 x10_3 ∧ Aside0 (spec_SphereAround.l0 kq a0 a2 x9_3 x10_3 a1_0 a1_1 a1_2 = some (r1, r2)) ∧ Aside0 (kq ≤ kj13) ∧ Aside0 (Kd.R k27 27 w' w.heap.size (fun k_ => k_ ≠ gb186) v9 x9_3) ∧ Aside0 (w'.heap[gb186]? = some (.cells #[.int .i64 a1_0, .int .i64 a1_1, .int .i64 a1_2] 27 (0, 0))) ∧ Aside0 (Below w.heap.size w w'))
      case atStart => exact ⟨(y192), (1), (by first | rfl | (simp; done) | (simp [*]; done)), H', ⟨Nat.le_refl _⟩, ⟨by (with_reducible repeat (first | apply Kd.R_alloc | apply Kd.R_drewN | apply Kd.R_drew)); exact Kd.R_mono HO194.out (fun _ hk => hk.2)⟩, ⟨be BK186⟩, ⟨bl⟩⟩
      case round =>
       clear H'
       obtain ⟨x9_3, x10_3, rfl, HA, HK3, HO_9, BK186, HB⟩ := hrel
       cases gk with
       | zero => exact absurd HA.out (by simp [spec_SphereAround.l0])
       | succ k3 =>
        have H := HA.out
        clear HA
        simp only [spec_SphereAround.l0] at H
        replace H := ii H
        rcases H with ⟨c20, H⟩ | ⟨c20, H⟩
        ·have c20b0 := decide_eq_true c20
         clear c20
         obtain ⟨y195, hy195⟩ : ∃ y_ : List (S27), y_ = (([] : List (S27))) := ⟨_, rfl⟩
         replace H : (spec_SphereAround.l1 k3 a0 a2 x9_3 x10_3 y195 0 a1_0 a1_1 a1_2) = some (r1, r2) := by first | exact hy195 ▸ H | exact H
         have Ny195 := Aside0.mk hy195
         clear hy195
         have H' := Aside0.mk H
         clear H
         go_wp2_with (first | ((with_reducible refine zg 37 rfl ?_); refine Kd.R_lit k27 _ 27 ?hg (N := 37) ?hd (xs := ([] : List (S27))) (inner := []) (ok := fun _ => True) (okp := fun _ => True) ?hr ?hp (fun _ hk => hk) trivial (Below.refl _ _) (Nat.le_refl _) (by simp) ?_; (case hd => rfl); (case hg => rfl); (case hr => first | (go_simp; done) | (go_simp; rfl)); (case hp => exact (Reps.none _ _)); intro v196 w21 ho22 hb hg_ hnew_; clear hg_ hnew_; (first | rw [← Ny195.out] at ho22 | (simp only [Int.reduceToNat] at ho22; rw [← Ny195.out] at ho22)); have HO197 := Aside0.mk (Kd.R_lower (Kd.R_newB (Kd.R_new' ho22 (Kd.R_lt (by (with_reducible repeat (first | apply Kd.R_alloc | apply Kd.R_drewN | apply Kd.R_drew)); exact HO_9.out))) (g := gb186) (o := .cells #[.int .i64 a1_0, .int .i64 a1_1, .int .i64 a1_2] 27 (0, 0)) (be BK186)) (below_size (bl))); replace HO_9 := Aside0.mk (Kd.R_elder' (by (with_reducible repeat (first | apply Kd.R_alloc | apply Kd.R_drewN | apply Kd.R_drew)); exact HO_9.out) (Kd.R_base ho22) hb); replace BK186 := bb BK186 hb; replace HB := bs hb; clear hb ho22))
         go_loopg [11, 12] k3 (fun kq v11 v12 w' => ∃ (x11_4 : List (S27)) (x12_4 : Int), v12 = .int .i64 x12_4 ∧ Aside0 (spec_SphereAround.l1 kq a0 a2 x9_3 x10_3 x11_4 x12_4 a1_0 a1_1 a1_2 = some (r1, r2)) ∧ Aside0 (kq ≤ k3) ∧ Aside0 (Kd.R k27 27 w' w.heap.size (fun k_ => some k_ ≠ (v11 : Value).ownBlock ∧ k_ ≠ gb186) u9 x9_3) ∧ Aside0 (Kd.R k27 27 w' w.heap.size (fun k_ => some k_ ≠ (u9 : Value).ownBlock ∧ k_ ≠ gb186) v11 x11_4) ∧ Aside0 (w'.heap[gb186]? = some (.cells #[.int .i64 a1_0, .int .i64 a1_1, .int .i64 a1_2] 27 (0, 0))) ∧ Aside0 (Below w.heap.size w w'))
         case atStart => exact ⟨(y195), (0), (by first | rfl | (simp; done) | (simp [*]; done)), H', ⟨Nat.le_refl _⟩, ⟨by (with_reducible repeat (first | apply Kd.R_alloc | apply Kd.R_drewN | apply Kd.R_drew)); exact Kd.R_mono HO_9.out (fun _ hk => ⟨hk.2, hk.1⟩)⟩, ⟨by (with_reducible repeat (first | apply Kd.R_alloc | apply Kd.R_drewN | apply Kd.R_drew)); exact Kd.R_mono HO197.out (fun _ hk => ⟨hk.1.2, hk.2⟩)⟩, ⟨be BK186⟩, ⟨bl⟩⟩
         case round =>
          clear H'
          obtain ⟨x11_4, x12_4, rfl, HA, HK4, HO_9, HO_11, BK186, HB⟩ := hrel
          cases gk with
          | zero => exact absurd HA.out (by simp [spec_SphereAround.l1])
          | succ k4 =>
           have H := HA.out
           clear HA
           simp only [spec_SphereAround.l1] at H
           replace H := ii H
           rcases H with ⟨c23, H⟩ | ⟨c23, H⟩
           ·have c23b0 := decide_eq_true c23
            clear c23
            replace H := ii H
            rcases H with ⟨c24, H⟩ | ⟨c24, H⟩
            ·have c24b0 := decide_eq_true c24
             clear c24
             replace H := zi H
             obtain ⟨⟨t199, t202⟩, A25, H⟩ := H
             try dsimp only at H
             by_cases c26 : t202 = true
             ·subst c26
              rw [if_pos rfl] at H
              have H' := Aside0.mk H
              clear H
              obtain ⟨Ao27, co27, eo27⟩ := Kd.R_slice HO_9.out
              subst eo27
              have p198 : 0 ≤ (x12_4 : Int) := za
              have q198 : x12_4 < (x9_3.length : Int) := za
              obtain ⟨ad198, e198, hx198_0, hx198_1, hx198_2⟩ := at_T27 (Kd.R_reads' HO_9.out).2.2 x12_4 p198 q198
              cases e198
              replace p198 := eq_true p198
              replace q198 := eq_true q198
              go_wp2_with (first | ((with_reducible refine zf 86 rfl ?_); refine g1 (some 50) Try.func86 #[.int .i64 a0, .agg #[.int .i64 ((rd_T27 x9_3 x12_4).f0), .int .i64 ((rd_T27 x9_3 x12_4).f1), .int .i64 ((rd_T27 x9_3 x12_4).f2)]] ?_; (with_reducible refine (spec_l02Near.calls k4 a0 ((rd_T27 x9_3 x12_4).f0) ((rd_T27 x9_3 x12_4).f1) ((rd_T27 x9_3 x12_4).f2) t199 true _ A25.out).mono ?_); rintro e w28 ⟨v200, rfl, ho0, hb⟩; refine ⟨_, rfl, ?_⟩; have HO201 := Aside0.mk (Kd.R_lower (Kd.R_newB (Kd.R_new' (Kd.R_new' ho0 (Kd.R_lt (by (with_reducible repeat (first | apply Kd.R_alloc | apply Kd.R_drewN | apply Kd.R_drew)); exact HO_9.out))) (Kd.R_lt (by (with_reducible repeat (first | apply Kd.R_alloc | apply Kd.R_drewN | apply Kd.R_drew)); exact HO_11.out))) (g := gb186) (o := .cells #[.int .i64 a1_0, .int .i64 a1_1, .int .i64 a1_2] 27 (0, 0)) (be BK186)) (below_size (bl))); replace HO_9 := Aside0.mk (Kd.R_elder' (by (with_reducible repeat (first | apply Kd.R_alloc | apply Kd.R_drewN | apply Kd.R_drew)); exact HO_9.out) (Kd.R_base ho0) hb); replace HO_11 := Aside0.mk (Kd.R_elder' (by (with_reducible repeat (first | apply Kd.R_alloc | apply Kd.R_drewN | apply Kd.R_drew)); exact HO_11.out) (Kd.R_base ho0) hb); replace BK186 := bb BK186 hb; replace HB := bs hb; (try clear hb); (try clear hb2); (try clear hk); (try clear hi); (try clear ho0)))
              go_loopg [11, 15] k4 (fun kq v11 v15 w' => ∃ (x11_5 : List (S27)) (x15_5 : Int), v15 = .int .i64 x15_5 ∧ Aside0 (spec_SphereAround.l2 kq a0 a2 x9_3 x10_3 x11_5 x12_4 t199 x15_5 a1_0 a1_1 a1_2 = some (r1, r2)) ∧ Aside0 (kq ≤ k4) ∧ Aside0 (Kd.R k27 27 w' w.heap.size (fun k_ => some k_ ≠ (v11 : Value).ownBlock ∧ some k_ ≠ (v200 : Value).ownBlock ∧ k_ ≠ gb186) (.slice (some ad198) x9_3.length co27) x9_3) ∧ Aside0 (Kd.R k27 27 w' w.heap.size (fun k_ => some k_ ≠ ((.slice (some ad198) x9_3.length co27) : Value).ownBlock ∧ some k_ ≠ (v200 : Value).ownBlock ∧ k_ ≠ gb186) v11 x11_5) ∧ Aside0 (Kd.R k27 27 w' w.heap.size (fun k_ => some k_ ≠ ((.slice (some ad198) x9_3.length co27) : Value).ownBlock ∧ some k_ ≠ (v11 : Value).ownBlock ∧ k_ ≠ gb186) v200 t199) ∧ Aside0 (w'.heap[gb186]? = some (.cells #[.int .i64 a1_0, .int .i64 a1_1, .int .i64 a1_2] 27 (0, 0))) ∧ Aside0 (Below w.heap.size w w'))
              case atStart => exact ⟨(x11_4), (0), (by first | rfl | (simp; done) | (simp [*]; done)), H', ⟨Nat.le_refl _⟩, ⟨by (with_reducible repeat (first | apply Kd.R_alloc | apply Kd.R_drewN | apply Kd.R_drew)); exact Kd.R_mono HO_9.out (fun _ hk => ⟨hk.1.1, ⟨hk.2, hk.1.2⟩⟩)⟩, ⟨by (with_reducible repeat (first | apply Kd.R_alloc | apply Kd.R_drewN | apply Kd.R_drew)); exact Kd.R_mono HO_11.out (fun _ hk => ⟨hk.1.1, ⟨hk.2, hk.1.2⟩⟩)⟩, ⟨by (with_reducible repeat (first | apply Kd.R_alloc | apply Kd.R_drewN | apply Kd.R_drew)); exact Kd.R_mono HO201.out (fun _ hk => ⟨hk.1.1.2, ⟨hk.1.2, hk.2⟩⟩)⟩, ⟨be BK186⟩, ⟨bl⟩⟩
              case round =>
               clear H'
               obtain ⟨x11_5, x15_5, rfl, HA, HK5, HO_9, HO_11, HO_13, BK186, HB⟩ := hrel
               cases gk with
               | zero => exact absurd HA.out (by simp [spec_SphereAround.l2])
               | succ k5 =>
                have H := HA.out
                clear HA
                simp only [spec_SphereAround.l2] at H
                replace H := ii H
                rcases H with ⟨c29, H⟩ | ⟨c29, H⟩
                ·have c29b0 := decide_eq_true c29
                 clear c29
                 replace H := ii H
                 rcases H with ⟨c30, H⟩ | ⟨c30, H⟩
                 ·have c30b0 := decide_eq_true c30
                  clear c30
                  replace H := zi H
                  obtain ⟨t204, A31, H⟩ := H
                  try dsimp only at H
                  replace H := ii H
                  rcases H with ⟨c32, H⟩ | ⟨c32, H⟩
                  ·obtain ⟨c32b0, c32b1⟩ := zz c32
                   clear c32
                   replace H := ii H
                   rcases H with ⟨c33, H⟩ | ⟨c33, H⟩
                   ·have LMc33 := Aside0.mk c33
                    clear c33
                    obtain ⟨y206, hy206⟩ : ∃ y_ : List (S27), y_ = (x11_5 ++ [(⟨(rd_T27 t199 x15_5).f0, (rd_T27 t199 x15_5).f1, (rd_T27 t199 x15_5).f2⟩ : S27)]) := ⟨_, rfl⟩
                    replace H : (spec_SphereAround.l2 k5 a0 a2 x9_3 x10_3 y206 x12_4 t199 (wrap64 (x15_5 + 1)) a1_0 a1_1 a1_2) = some (r1, r2) := by first | exact hy206 ▸ H | exact H
                    have Ny206 := Aside0.mk hy206
                    clear hy206
                    have H' := Aside0.mk H
                    clear H
                    obtain ⟨Ao34, co34, eo34⟩ := Kd.R_slice HO_13.out
                    subst eo34
                    try go_wp2
                    replace HO_9 := Aside0.mk (Kd.R_drew HO_9.out)
                    replace HO_11 := Aside0.mk (Kd.R_drew HO_11.out)
                    replace HO_13 := Aside0.mk (Kd.R_drew HO_13.out)
                    replace BK186 := Aside0.mk (blk_drew BK186.out)
                    replace HB := Aside0.mk (below_drew1 HB.out)
                    have p203 : 0 ≤ (x15_5 : Int) := za
                    have q203 : x15_5 < (t199.length : Int) := za
                    obtain ⟨ad203, e203, hx203_0, hx203_1, hx203_2⟩ := at_T27 (Kd.R_reads' HO_13.out).2.2 x15_5 p203 q203
                    cases e203
                    replace p203 := eq_true p203
                    replace q203 := eq_true q203
                    refine sw 9 (fun w' => w'.cell? ⟨gb186, 0, none⟩ = some (.int .i64 a1_0) ∧ w'.cell? ⟨gb186, 1, none⟩ = some (.int .i64 a1_1) ∧ w'.cell? ⟨gb186, 2, none⟩ = some (.int .i64 a1_2) ∧ w'.cell? (ad203.add ((x15_5).toNat * 3)) = some (.int .i64 ((rd_T27 t199 x15_5).f0)) ∧ w'.cell? ⟨(ad203.add ((x15_5).toNat * 3)).block, (ad203.add ((x15_5).toNat * 3)).off + 1, none⟩ = some (.int .i64 ((rd_T27 t199 x15_5).f1)) ∧ w'.cell? ⟨(ad203.add ((x15_5).toNat * 3)).block, (ad203.add ((x15_5).toNat * 3)).off + 2, none⟩ = some (.int .i64 ((rd_T27 t199 x15_5).f2))) spec_SphereAround.tab20 spec_SphereAround.bits20 (e3r BK186 ⟨hx203_0, hx203_1, hx203_2⟩) (fun hHeld HT_ HW_ => ?_)
                    generalize wr.drew = w35 at HO_9 HO_11 HO_13 BK186 HB hx203_0 hx203_1 hx203_2 hHeld ⊢
                    refine pu 0 (some 61) (tA 9 1) HT_ ?_
                    refine pu 2 (some 63) (tA 9 5) HT_ ?_
                    refine pu 3 (some 64) (tA 9 13) HT_ ?_
                    refine pu 4 (some 65) (tA 9 29) HT_ ?_
                    refine pu 7 (some 68) (tA 9 157) HT_ ?_
                    refine tk6 1 (some 62) (tA 9 159) HT_ HW_ hHeld ?_
                    refine tk6 5 (some 66) (tA 9 191) HT_ HW_ hHeld ?_
                    refine o1 6 (some 67) (tA 9 255) HT_ (fun K hK => ?_)
                    refine gs Try.func89 #[.int .i64 a0, .agg #[.int .i64 a1_0, .int .i64 a1_1, .int .i64 a1_2], .agg #[.int .i64 ((rd_T27 t199 x15_5).f0), .int .i64 ((rd_T27 t199 x15_5).f1), .int .i64 ((rd_T27 t199 x15_5).f2)]] ?_
                    with_reducible refine (spec_l02Distance.calls k5 a0 a1_0 a1_1 a1_2 ((rd_T27 t199 x15_5).f0) ((rd_T27 t199 x15_5).f1) ((rd_T27 t199 x15_5).f2) t204 _ A31.out).mono ?_
                    rintro e w36 ⟨rfl, hb⟩
                    have HS3_ := (hb.cell (World.block_lt_of_cell? _ _ (hHeld.2.2.2.1))).trans (hHeld.2.2.2.1)
                    have HS4_ := (hb.cell (World.block_lt_of_cell? _ _ (hHeld.2.2.2.2.1))).trans (hHeld.2.2.2.2.1)
                    have HS5_ := (hb.cell (World.block_lt_of_cell? _ _ (hHeld.2.2.2.2.2))).trans (hHeld.2.2.2.2.2)
                    refine ⟨_, rfl, ?_⟩
                    replace HO_9 := Aside0.mk (Kd.R_below (by (with_reducible repeat (first | apply Kd.R_alloc | apply Kd.R_drewN | apply Kd.R_drew)); exact HO_9.out) hb)
                    replace HO_11 := Aside0.mk (Kd.R_below (by (with_reducible repeat (first | apply Kd.R_alloc | apply Kd.R_drewN | apply Kd.R_drew)); exact HO_11.out) hb)
                    replace HO_13 := Aside0.mk (Kd.R_below (by (with_reducible repeat (first | apply Kd.R_alloc | apply Kd.R_drewN | apply Kd.R_drew)); exact HO_13.out) hb)
                    replace BK186 := bb BK186 hb
                    replace HB := bs hb
                    (try clear hb)
                    (try clear hb2)
                    (try clear hk)
                    (try clear hi)
                    refine hK.out _ _ (e3r BK186 ⟨HS3_, HS4_, HS5_⟩) (fun hHeld => ?_)
                    clear hK K
                    refine nm (some 67) ?_
                    refine pu 8 (some 69) (tA 9 511) HT_ ?_
                    refine done_ (done_of HT_.out (by kernel_rfl)) ?_
                    have p205 : 0 ≤ (x15_5 : Int) := za
                    have q205 : x15_5 < (t199.length : Int) := za
                    obtain ⟨ad205, e205, hx205_0, hx205_1, hx205_2⟩ := at_T27 (Kd.R_reads' HO_13.out).2.2 x15_5 p205 q205
                    obtain rfl : ad203 = ad205 := (by injection e205)
                    replace p205 := eq_true p205
                    replace q205 := eq_true q205
                    try go_wp2_with (first | ((with_reducible refine gate_builtin (b := .append) (xs := #[.tmp 70, .tmp 75]) rfl ?_); at_builtin; refine Kd.R_append k27 (w0 := w) w.heap.size rfl (.tmp 70) (.tmp 75) 24 27 (.agg #[(.int .i64 0), (.int .i64 0), (.int .i64 0)]) 24 rfl Try.underlying24 info27 rfl (by decide) (by omega) u11 x11_5 (⟨(rd_T27 t199 x15_5).f0, (rd_T27 t199 x15_5).f1, (rd_T27 t199 x15_5).f2⟩ : S27) [.int .i64 ((rd_T27 t199 x15_5).f0), .int .i64 ((rd_T27 t199 x15_5).f1), .int .i64 ((rd_T27 t199 x15_5).f2)] (fun k_ => some k_ ≠ (.slice (some ad198) x9_3.length co27 : Value).ownBlock ∧ some k_ ≠ (.slice (some ad203) t199.length co34 : Value).ownBlock ∧ k_ ≠ gb186) (fun _ => False) rfl rfl ?aP (fun _ hk => hk.elim) ?aF ?aO ?aB ?aS ?aL ?_; (case aP => exact k27_mkM _ _ _ (⟨(rd_T27 t199 x15_5).f0, (rd_T27 t199 x15_5).f1, (rd_T27 t199 x15_5).f2⟩ : S27)); (case aB => exact (bl)); (case aF => exact (fun k_ hk => ⟨Kd.fresh' (Kd.R_lt (by (with_reducible repeat (first | apply Kd.R_alloc | apply Kd.R_drewN | apply Kd.R_drew)); exact HO_9.out)) k_ hk, Kd.fresh' (Kd.R_lt (by (with_reducible repeat (first | apply Kd.R_alloc | apply Kd.R_drewN | apply Kd.R_drew)); exact HO_13.out)) k_ hk, Kd.freshB (g := gb186) (o := .cells #[.int .i64 a1_0, .int .i64 a1_1, .int .i64 a1_2] 27 (0, 0)) (be BK186) k_ hk⟩)); (case aO => exact (by (with_reducible repeat (first | apply Kd.R_alloc | apply Kd.R_drewN | apply Kd.R_drew)); exact HO_11.out)); (case aS => exact (below_size (bl))); (case aL => have := LMc33.out; omega); intro v207 w37 ho hb hg hat; rw [← Ny206.out] at ho; have n0_ := Aside0.mk (Kd.R_after (ok := (fun k_ => some k_ ≠ (.slice (some ad203) t199.length co34 : Value).ownBlock ∧ k_ ≠ gb186)) (by (with_reducible repeat (first | apply Kd.R_alloc | apply Kd.R_drewN | apply Kd.R_drew)); exact Kd.R_mono HO_9.out (fun _ hk => ⟨⟨hk.2.1, hk.2.2⟩, hk.1⟩)) hg hat); have n1_ := Aside0.mk (Kd.R_after (ok := (fun k_ => some k_ ≠ (.slice (some ad198) x9_3.length co27 : Value).ownBlock ∧ k_ ≠ gb186)) (by (with_reducible repeat (first | apply Kd.R_alloc | apply Kd.R_drewN | apply Kd.R_drew)); exact Kd.R_mono HO_13.out (fun _ hk => ⟨⟨hk.1, hk.2.2⟩, hk.2.1⟩)) hg hat); have n2_ := Aside0.mk (blk_grown (g := gb186) (o := .cells #[.int .i64 a1_0, .int .i64 a1_1, .int .i64 a1_2] 27 (0, 0)) (be BK186) hg (Kd.R_away HO_11.out (fun _ hk => hk.2.2))); have n3_ := Aside0.mk (hb); have n4_ := Aside0.mk (ho); clear HO_9; clear HO_13; clear BK186; clear HB; clear HO_11; have HO_9 := n0_; have HO_13 := n1_; have BK186 := n2_; have HB := n3_; have HO208 := n4_; clear n0_ n1_ n2_ n3_ n4_; clear ho hb hg hat))
                    go_roundg k5
                    case measure => have := HJ4.out; have := HJ13.out; have := HK3.out; have := HK4.out; have := HK5.out; omega
                    case rel => exact ⟨(y206), (wrap64 (x15_5 + 1)), (by first | rfl | (simp; done) | (simp [*]; done)), H', ⟨by have := HJ4.out; have := HJ13.out; have := HK3.out; have := HK4.out; have := HK5.out; omega⟩, ⟨by (with_reducible repeat (first | apply Kd.R_alloc | apply Kd.R_drewN | apply Kd.R_drew)); exact Kd.R_mono HO_9.out (fun _ hk => ⟨hk.2, ⟨hk.1.1, hk.1.2⟩⟩)⟩, ⟨by (with_reducible repeat (first | apply Kd.R_alloc | apply Kd.R_drewN | apply Kd.R_drew)); exact HO208.out⟩, ⟨by (with_reducible repeat (first | apply Kd.R_alloc | apply Kd.R_drewN | apply Kd.R_drew)); exact Kd.R_mono HO_13.out (fun _ hk => ⟨hk.1.1, ⟨hk.2, hk.1.2⟩⟩)⟩, ⟨be BK186⟩, ⟨bl⟩⟩
                   ·exact absurd H (by simp)
                  ·obtain ⟨c32b0, c32b1⟩ := zy c32
                   have H' := Aside0.mk H
                   clear H
                   obtain ⟨Ao38, co38, eo38⟩ := Kd.R_slice HO_13.out
                   subst eo38
                   try go_wp2
                   replace HO_9 := Aside0.mk (Kd.R_drew HO_9.out)
                   replace HO_11 := Aside0.mk (Kd.R_drew HO_11.out)
                   replace HO_13 := Aside0.mk (Kd.R_drew HO_13.out)
                   replace BK186 := Aside0.mk (blk_drew BK186.out)
                   replace HB := Aside0.mk (below_drew1 HB.out)
                   have p203 : 0 ≤ (x15_5 : Int) := za
                   have q203 : x15_5 < (t199.length : Int) := za
                   obtain ⟨ad203, e203, hx203_0, hx203_1, hx203_2⟩ := at_T27 (Kd.R_reads' HO_13.out).2.2 x15_5 p203 q203
                   cases e203
                   replace p203 := eq_true p203
                   replace q203 := eq_true q203
                   refine sw 9 (fun w' => w'.cell? ⟨gb186, 0, none⟩ = some (.int .i64 a1_0) ∧ w'.cell? ⟨gb186, 1, none⟩ = some (.int .i64 a1_1) ∧ w'.cell? ⟨gb186, 2, none⟩ = some (.int .i64 a1_2) ∧ w'.cell? (ad203.add ((x15_5).toNat * 3)) = some (.int .i64 ((rd_T27 t199 x15_5).f0)) ∧ w'.cell? ⟨(ad203.add ((x15_5).toNat * 3)).block, (ad203.add ((x15_5).toNat * 3)).off + 1, none⟩ = some (.int .i64 ((rd_T27 t199 x15_5).f1)) ∧ w'.cell? ⟨(ad203.add ((x15_5).toNat * 3)).block, (ad203.add ((x15_5).toNat * 3)).off + 2, none⟩ = some (.int .i64 ((rd_T27 t199 x15_5).f2))) spec_SphereAround.tab20 spec_SphereAround.bits20 (e3r BK186 ⟨hx203_0, hx203_1, hx203_2⟩) (fun hHeld HT_ HW_ => ?_)
                   generalize wr.drew = w39 at HO_9 HO_11 HO_13 BK186 HB hx203_0 hx203_1 hx203_2 hHeld ⊢
                   refine pu 0 (some 61) (tA 9 1) HT_ ?_
                   refine pu 2 (some 63) (tA 9 5) HT_ ?_
                   refine pu 3 (some 64) (tA 9 13) HT_ ?_
                   refine pu 4 (some 65) (tA 9 29) HT_ ?_
                   refine pu 7 (some 68) (tA 9 157) HT_ ?_
                   refine tk6 1 (some 62) (tA 9 159) HT_ HW_ hHeld ?_
                   refine tk6 5 (some 66) (tA 9 191) HT_ HW_ hHeld ?_
                   refine o1 6 (some 67) (tA 9 255) HT_ (fun K hK => ?_)
                   refine gs Try.func89 #[.int .i64 a0, .agg #[.int .i64 a1_0, .int .i64 a1_1, .int .i64 a1_2], .agg #[.int .i64 ((rd_T27 t199 x15_5).f0), .int .i64 ((rd_T27 t199 x15_5).f1), .int .i64 ((rd_T27 t199 x15_5).f2)]] ?_
                   with_reducible refine (spec_l02Distance.calls k5 a0 a1_0 a1_1 a1_2 ((rd_T27 t199 x15_5).f0) ((rd_T27 t199 x15_5).f1) ((rd_T27 t199 x15_5).f2) t204 _ A31.out).mono ?_
                   rintro e w40 ⟨rfl, hb⟩
                   have HS3_ := (hb.cell (World.block_lt_of_cell? _ _ (hHeld.2.2.2.1))).trans (hHeld.2.2.2.1)
                   have HS4_ := (hb.cell (World.block_lt_of_cell? _ _ (hHeld.2.2.2.2.1))).trans (hHeld.2.2.2.2.1)
                   have HS5_ := (hb.cell (World.block_lt_of_cell? _ _ (hHeld.2.2.2.2.2))).trans (hHeld.2.2.2.2.2)
                   refine ⟨_, rfl, ?_⟩
                   replace HO_9 := Aside0.mk (Kd.R_below (by (with_reducible repeat (first | apply Kd.R_alloc | apply Kd.R_drewN | apply Kd.R_drew)); exact HO_9.out) hb)
                   replace HO_11 := Aside0.mk (Kd.R_below (by (with_reducible repeat (first | apply Kd.R_alloc | apply Kd.R_drewN | apply Kd.R_drew)); exact HO_11.out) hb)
                   replace HO_13 := Aside0.mk (Kd.R_below (by (with_reducible repeat (first | apply Kd.R_alloc | apply Kd.R_drewN | apply Kd.R_drew)); exact HO_13.out) hb)
                   replace BK186 := bb BK186 hb
                   replace HB := bs hb
                   (try clear hb)
                   (try clear hb2)
                   (try clear hk)
                   (try clear hi)
                   refine hK.out _ _ (e3r BK186 ⟨HS3_, HS4_, HS5_⟩) (fun hHeld => ?_)
                   clear hK K
                   refine nm (some 67) ?_
                   refine pu 8 (some 69) (tA 9 511) HT_ ?_
                   refine done_ (done_of HT_.out (by kernel_rfl)) ?_
                   try go_wp2
                   go_roundg k5
                   case measure => have := HJ4.out; have := HJ13.out; have := HK3.out; have := HK4.out; have := HK5.out; omega
                   case rel => exact ⟨(x11_5), (wrap64 (x15_5 + 1)), (by first | rfl | (simp; done) | (simp [*]; done)), H', ⟨by have := HJ4.out; have := HJ13.out; have := HK3.out; have := HK4.out; have := HK5.out; omega⟩, ⟨by (with_reducible repeat (first | apply Kd.R_alloc | apply Kd.R_drewN | apply Kd.R_drew)); exact HO_9.out⟩, ⟨by (with_reducible repeat (first | apply Kd.R_alloc | apply Kd.R_drewN | apply Kd.R_drew)); exact HO_11.out⟩, ⟨by (with_reducible repeat (first | apply Kd.R_alloc | apply Kd.R_drewN | apply Kd.R_drew)); exact HO_13.out⟩, ⟨be BK186⟩, ⟨bl⟩⟩
                 ·exact absurd H (by simp)
                ·have c29b0 := decide_eq_false c29
                 clear c29
                 have H' := Aside0.mk H
                 clear H
                 obtain ⟨Ao41, co41, eo41⟩ := Kd.R_slice HO_13.out
                 subst eo41
                 go_wp2
                 go_roundg k5
                 case measure => have := HJ4.out; have := HJ13.out; have := HK3.out; have := HK4.out; have := HK5.out; omega
                 case rel => exact ⟨(x11_5), (wrap64 (x12_4 + 1)), (by first | rfl | (simp; done) | (simp [*]; done)), H', ⟨by have := HJ4.out; have := HJ13.out; have := HK3.out; have := HK4.out; have := HK5.out; omega⟩, ⟨by (with_reducible repeat (first | apply Kd.R_alloc | apply Kd.R_drewN | apply Kd.R_drew)); exact Kd.R_mono HO_9.out (fun _ hk => ⟨hk.1, hk.2.2⟩)⟩, ⟨by (with_reducible repeat (first | apply Kd.R_alloc | apply Kd.R_drewN | apply Kd.R_drew)); exact Kd.R_mono HO_11.out (fun _ hk => ⟨hk.1, hk.2.2⟩)⟩, ⟨be BK186⟩, ⟨bl⟩⟩
             ·replace c26 := Bool.eq_false_iff.mpr c26
              subst c26
              have H1 : (some (([] : List (S27)), 3)) = some (r1, r2) := by rw [if_neg (show ¬ (false = true) by decide)] at H; exact H
              clear H
              have H := H1
              clear H1
              simp only [Option.some.injEq, Prod.mk.injEq] at H
              obtain ⟨rfl, rfl⟩ := H
              obtain ⟨Ao42, co42, eo42⟩ := Kd.R_slice HO_9.out
              subst eo42
              have p198 : 0 ≤ (x12_4 : Int) := za
              have q198 : x12_4 < (x9_3.length : Int) := za
              obtain ⟨ad198, e198, hx198_0, hx198_1, hx198_2⟩ := at_T27 (Kd.R_reads' HO_9.out).2.2 x12_4 p198 q198
              cases e198
              replace p198 := eq_true p198
              replace q198 := eq_true q198
              go_wp2_with (first | ((with_reducible refine zf 86 rfl ?_); refine g1 (some 50) Try.func86 #[.int .i64 a0, .agg #[.int .i64 ((rd_T27 x9_3 x12_4).f0), .int .i64 ((rd_T27 x9_3 x12_4).f1), .int .i64 ((rd_T27 x9_3 x12_4).f2)]] ?_; (with_reducible refine (spec_l02Near.calls k4 a0 ((rd_T27 x9_3 x12_4).f0) ((rd_T27 x9_3 x12_4).f1) ((rd_T27 x9_3 x12_4).f2) t199 false _ A25.out).mono ?_); rintro e w43 ⟨v200, rfl, ho0, hb⟩; refine ⟨_, rfl, ?_⟩; have HO201 := Aside0.mk (Kd.R_lower (Kd.R_newB (Kd.R_new' (Kd.R_new' ho0 (Kd.R_lt (by (with_reducible repeat (first | apply Kd.R_alloc | apply Kd.R_drewN | apply Kd.R_drew)); exact HO_9.out))) (Kd.R_lt (by (with_reducible repeat (first | apply Kd.R_alloc | apply Kd.R_drewN | apply Kd.R_drew)); exact HO_11.out))) (g := gb186) (o := .cells #[.int .i64 a1_0, .int .i64 a1_1, .int .i64 a1_2] 27 (0, 0)) (be BK186)) (below_size (bl))); replace HO_9 := Aside0.mk (Kd.R_elder' (by (with_reducible repeat (first | apply Kd.R_alloc | apply Kd.R_drewN | apply Kd.R_drew)); exact HO_9.out) (Kd.R_base ho0) hb); replace HO_11 := Aside0.mk (Kd.R_elder' (by (with_reducible repeat (first | apply Kd.R_alloc | apply Kd.R_drewN | apply Kd.R_drew)); exact HO_11.out) (Kd.R_base ho0) hb); replace BK186 := bb BK186 hb; replace HB := bs hb; (try clear hb); (try clear hb2); (try clear hk); (try clear hi); (try clear ho0)))
              go_ret2
              exact ⟨_, er, by first | exact Kd.R_nil _ _ _ _ _ | exact Kd.N_nil _ _ _ _ _ | exact Kd.V_nil _ _ _ _ _ | exact Kd.Q_nil _ _ _ _ _ | exact Kd.S_nil _ _ _ _ _, bl⟩
            ·exact absurd H (by simp)
           ·have c23b0 := decide_eq_false c23
            clear c23
            have H' := Aside0.mk H
            clear H
            obtain ⟨Ao44, co44, eo44⟩ := Kd.R_slice HO_9.out
            subst eo44
            go_wp2
            go_roundg k4
            case measure => have := HJ4.out; have := HJ13.out; have := HK3.out; have := HK4.out; omega
            case rel => exact ⟨(x11_4), (wrap64 (x10_3 + 1)), (by first | rfl | (simp; done) | (simp [*]; done)), H', ⟨by have := HJ4.out; have := HJ13.out; have := HK3.out; have := HK4.out; omega⟩, ⟨by (with_reducible repeat (first | apply Kd.R_alloc | apply Kd.R_drewN | apply Kd.R_drew)); exact Kd.R_mono HO_11.out (fun _ hk => hk.2)⟩, ⟨be BK186⟩, ⟨bl⟩⟩
        ·have c20b0 := decide_eq_false c20
         clear c20
         simp only [Option.some.injEq, Prod.mk.injEq] at H
         obtain ⟨rfl, rfl⟩ := H
         go_wp2
         go_ret2
         exact ⟨_, er, by (with_reducible repeat (first | apply Kd.R_alloc | apply Kd.R_drewN | apply Kd.R_drew)); exact Kd.R_mono HO_9.out (fun _ hk => trivial), bl⟩
     ·obtain ⟨c16b0, c16b1⟩ := zy c16
      simp only [Option.some.injEq, Prod.mk.injEq] at H
      obtain ⟨rfl, rfl⟩ := H
      go_wp2
      go_ret2
      exact ⟨_, er, by first | exact Kd.R_nil _ _ _ _ _ | exact Kd.N_nil _ _ _ _ _ | exact Kd.V_nil _ _ _ _ _ | exact Kd.Q_nil _ _ _ _ _ | exact Kd.S_nil _ _ _ _ _, bl⟩

/-! ### impl_isLevel: function 102 -/
def impl_isLevel.f (a0 : Int) : Option (Bool) := if a0 ≥ (-6) then (some (decide (a0 ≤ 6))) else (some false)
set_option maxHeartbeats 8000000 in
set_option maxRecDepth 100000 in
theorem impl_isLevel.calls (a0 : Int) (r : Bool) (w : World) (h : impl_isLevel.f a0 = some r) :
  Calls Try.prog 102 #[.int .i64 a0] w fun e w' => e = .returned (.bool r) ∧ Drawn0 w w' := by
 unfold impl_isLevel.f at h
 have H := h
 clear h
 replace H := ii H
 rcases H with ⟨c2, H⟩ | ⟨c2, H⟩
 ·have c2b0 := decide_eq_true c2
  clear c2
  obtain rfl := Option.some.inj H
  go_enter Try.func102, Try.ntmps102
  go_wp2
  go_ret
  exact zx
 ·have c2b0 := decide_eq_false c2
  clear c2
  obtain rfl := Option.some.inj H
  go_enter Try.func102, Try.ntmps102
  go_wp2
  go_ret
  exact zx

end Go.Proofs.Ytpmepopagapeiaa.PFnMedians

-- Printed by the kit's print and repaired by a program of this session.
import Derived.Test.YtpmepopagapeiaaPFnMediansx0
import Derived.Test.YtpmepopagapeiaaPFnMediansx2
import Derived.Test.YtpmepopagapeiaaPFnMediansx3
import Derived.Test.YtpmepopagapeiaaPFnMediansx6
import Derived.Test.YtpmepopagapeiaaPFnMediansx7
namespace Go.Proofs.Ytpmepopagapeiaa.PFnMedians
open Go.RowKit Go.Proofs.YtpmepopagapeiaaW.PrintWords Go.Proofs.YtpmepopagapeiaaW.PrintLast Go.Proofs.YtpmepopagapeiaaW.PrintMore
attribute [local go_sem] max2_int min2_int max_two min_two max_three min_three max_four min_four
set_option linter.unusedVariables false
set_option linter.unusedSimpArgs false

/-! ### impl_areBalls: function 83 -/
def impl_areBalls.l0 : Nat → Int → List (S27) → Int → Int → Option (Bool)
 | 0, _, _, _, _ => none
 | k + 1, x0, x7, x8, x9 => if x9 < x8 then (if 0 ≤ x9 then (if x9 < (x7.length : Int) then ((impl_IsBall.f k x0 ((rd_T27 x7 x9).f0) ((rd_T27 x7 x9).f1) ((rd_T27 x7 x9).f2)).bind fun t312 => (if t312 = true then (impl_areBalls.l0 k x0 x7 x8 (wrap64 (x9 + 1))) else (some false))) else (none)) else (none)) else ((impl_isPrime.f x0).bind fun t313 => (some t313))
def impl_areBalls.f (k : Nat) (a0 : Int) (l1 : List (S27)) : Option (Bool) := impl_areBalls.l0 k a0 l1 (l1.length : Int) 0
set_option maxHeartbeats 8000000 in
set_option maxRecDepth 100000 in
theorem impl_areBalls.calls (k : Nat) (a0 : Int) (A1 : Option Addr) (c1 : Nat) (l1 : List (S27)) (r : Bool) (w : World) (hr1 : Kd.C k27 w A1 l1.length l1) (hc1 : l1.length ≤ c1) (h : impl_areBalls.f k a0 l1 = some r) :
  Calls Try.prog 83 #[.int .i64 a0, .slice A1 l1.length c1] w fun e w' => e = .returned (.bool r) ∧ Below w.heap.size w w' := by
 have hu27 := Try.underlying27
 have HR1 := Aside0.mk hr1
 have HC1 := Aside0.mk hc1
 clear hr1 hc1
 have HB := Aside0.mk (Below.refl w.heap.size w)
 unfold impl_areBalls.f at h
 have H := h
 clear h
 have H' := Aside0.mk H
 clear H
 go_enter Try.func83, Try.ntmps83
 go_wp2
 go_loopg [9] k (fun kq v9 w' => ∃ (x9_1 : Int), v9 = .int .i64 x9_1 ∧ Aside0 (impl_areBalls.l0 kq a0 l1 (l1.length : Int) x9_1 = some r) ∧ Aside0 (kq ≤ k) ∧ Aside0 (Below w.heap.size w w'))
 case atStart => exact ⟨(0), (by first | rfl | (simp; done) | (simp [*]; done)), H', ⟨Nat.le_refl _⟩, ⟨by repeat (first | (with_reducible first | exact HB.out | apply below_alloc | apply pw_below_drewN | apply below_drew1) | exact HB.out)⟩⟩
 case round =>
  clear H'
  obtain ⟨x9_1, rfl, HA, HK1, HB⟩ := hrel
  cases gk with
  | zero => exact absurd HA.out (by simp [impl_areBalls.l0])
  | succ k1 =>
   have H := HA.out
   clear HA
   simp only [impl_areBalls.l0] at H
   replace H := ii H
   rcases H with ⟨c3, H⟩ | ⟨c3, H⟩
   ·have c3b0 := decide_eq_true c3
    clear c3
    replace H := ii H
    rcases H with ⟨c4, H⟩ | ⟨c4, H⟩
    ·have c4b0 := decide_eq_true c4
     clear c4
     replace H := ii H
     rcases H with ⟨c5, H⟩ | ⟨c5, H⟩
     ·have c5b0 := decide_eq_true c5
      clear c5
      replace H := zi H
      obtain ⟨t312, A6, H⟩ := H
      try dsimp only at H
      by_cases c7 : t312 = true
      ·subst c7
       rw [if_pos rfl] at H
       have H' := Aside0.mk H
       clear H
       have p310 : 0 ≤ (x9_1 : Int) := za
       have q310 : x9_1 < (l1.length : Int) := za
       obtain ⟨ad310, e310, hx310_0, hx310_1, hx310_2⟩ := at_T27 HR1.out x9_1 p310 q310
       cases e310
       replace hx310_0 := (HB.out.cell (World.block_lt_of_cell? w _ hx310_0)).trans hx310_0
       replace hx310_1 := (HB.out.cell (World.block_lt_of_cell? w _ hx310_1)).trans hx310_1
       replace hx310_2 := (HB.out.cell (World.block_lt_of_cell? w _ hx310_2)).trans hx310_2
       replace p310 := eq_true p310
       replace q310 := eq_true q310
       go_wp2_with (first | ((with_reducible refine zg 6 rfl ?_); refine z3 6 27 0 0 0 ?_; intro gb311 hg w8 BK311 hb; have GW311 := sg hg; replace HB := bs hb; clear hb hg; obtain ⟨hcz9_0, hcz9_1, hcz9_2, hfz9_0, hfz9_1, hfz9_2⟩ := cq3 BK311) | ((with_reducible refine zf 65 rfl ?_); refine g1 (some 15) Try.func65 #[.int .i64 a0, .agg #[.int .i64 ((rd_T27 l1 x9_1).f0), .int .i64 ((rd_T27 l1 x9_1).f1), .int .i64 ((rd_T27 l1 x9_1).f2)]] ?_; (with_reducible refine (impl_IsBall.calls k1 a0 ((rd_T27 l1 x9_1).f0) ((rd_T27 l1 x9_1).f1) ((rd_T27 l1 x9_1).f2) true _ A6.out).mono ?_); rintro e w10 ⟨rfl, hb⟩; refine ⟨_, rfl, ?_⟩; replace BK311 := Aside0.mk (blk_below (g := gb311) (o := .cells #[.int .i64 ((rd_T27 l1 x9_1).f0), .int .i64 ((rd_T27 l1 x9_1).f1), .int .i64 ((rd_T27 l1 x9_1).f2)] 27 (0, 0)) (bp) hb); replace HB := bs hb; (try clear hb)))
       go_roundg k1
       case measure => have := HK1.out; omega
       case rel => exact ⟨(wrap64 (x9_1 + 1)), (by first | rfl | (simp; done) | (simp [*]; done)), H', ⟨by have := HK1.out; omega⟩, ⟨by repeat (first | (with_reducible first | exact HB.out | apply below_alloc | apply pw_below_drewN | apply below_drew1 | refine below_set ?_ GW311.out) | exact HB.out)⟩⟩
      ·replace c7 := Bool.eq_false_iff.mpr c7
       subst c7
       have H1 : (some false) = some r := by rw [if_neg (show ¬ (false = true) by decide)] at H; exact H
       clear H
       have H := H1
       clear H1
       obtain rfl := Option.some.inj H
       have p310 : 0 ≤ (x9_1 : Int) := za
       have q310 : x9_1 < (l1.length : Int) := za
       obtain ⟨ad310, e310, hx310_0, hx310_1, hx310_2⟩ := at_T27 HR1.out x9_1 p310 q310
       cases e310
       replace hx310_0 := (HB.out.cell (World.block_lt_of_cell? w _ hx310_0)).trans hx310_0
       replace hx310_1 := (HB.out.cell (World.block_lt_of_cell? w _ hx310_1)).trans hx310_1
       replace hx310_2 := (HB.out.cell (World.block_lt_of_cell? w _ hx310_2)).trans hx310_2
       replace p310 := eq_true p310
       replace q310 := eq_true q310
       go_wp2_with (first | ((with_reducible refine zg 6 rfl ?_); refine z3 6 27 0 0 0 ?_; intro gb311 hg w11 BK311 hb; have GW311 := sg hg; replace HB := bs hb; clear hb hg; obtain ⟨hcz12_0, hcz12_1, hcz12_2, hfz12_0, hfz12_1, hfz12_2⟩ := cq3 BK311) | ((with_reducible refine zf 65 rfl ?_); refine g1 (some 15) Try.func65 #[.int .i64 a0, .agg #[.int .i64 ((rd_T27 l1 x9_1).f0), .int .i64 ((rd_T27 l1 x9_1).f1), .int .i64 ((rd_T27 l1 x9_1).f2)]] ?_; (with_reducible refine (impl_IsBall.calls k1 a0 ((rd_T27 l1 x9_1).f0) ((rd_T27 l1 x9_1).f1) ((rd_T27 l1 x9_1).f2) false _ A6.out).mono ?_); rintro e w13 ⟨rfl, hb⟩; refine ⟨_, rfl, ?_⟩; replace BK311 := Aside0.mk (blk_below (g := gb311) (o := .cells #[.int .i64 ((rd_T27 l1 x9_1).f0), .int .i64 ((rd_T27 l1 x9_1).f1), .int .i64 ((rd_T27 l1 x9_1).f2)] 27 (0, 0)) (bp) hb); replace HB := bs hb; (try clear hb)))
       go_ret
       exact ⟨er, by repeat (first | (with_reducible first | exact HB.out | apply below_alloc | apply pw_below_drewN | apply below_drew1 | refine below_set ?_ GW311.out) | exact HB.out)⟩
     ·exact absurd H (by simp)
    ·exact absurd H (by simp)
   ·have c3b0 := decide_eq_false c3
    clear c3
    replace H := zi H
    obtain ⟨t313, A14, H⟩ := H
    try dsimp only at H
    obtain rfl := Option.some.inj H
    go_wp2_with (first | ((with_reducible refine zf 119 rfl ?_); refine g1 (some 19) Try.func119 #[.int .i64 a0] ?_; (with_reducible refine (impl_isPrime.calls a0 t313 _ A14.out).mono ?_); rintro e w' ⟨rfl, ⟨nd, rfl⟩⟩; refine ⟨_, rfl, ?_⟩))
    go_ret
    exact ⟨er, by repeat (first | (with_reducible first | exact HB.out | apply below_alloc | apply pw_below_drewN | apply below_drew1) | exact HB.out)⟩

/-! ### impl_TreeDistance: function 44 -/
def impl_TreeDistance.f (k : Nat) (a0 : Int) (a1_0 : Int) (a1_1 : Int) (a1_2 : Int) (a2_0 : Int) (a2_1 : Int) (a2_2 : Int) : Option (Int × Int) := (impl_areBalls.f k a0 (([(⟨a1_0, a1_1, a1_2⟩ : S27), (⟨a2_0, a2_1, a2_2⟩ : S27)] : List (S27)))).bind fun t319 => (if t319 = true then ((impl_distance.f k a0 a1_0 a1_1 a1_2 a2_0 a2_1 a2_2).bind fun t320 => (some (t320, 0))) else (some (0, 1)))
set_option maxHeartbeats 8000000 in
set_option maxRecDepth 100000 in
theorem impl_TreeDistance.calls (k : Nat) (a0 : Int) (a1_0 : Int) (a1_1 : Int) (a1_2 : Int) (a2_0 : Int) (a2_1 : Int) (a2_2 : Int) (r1 : Int) (r2 : Int) (w : World) (h : impl_TreeDistance.f k a0 a1_0 a1_1 a1_2 a2_0 a2_1 a2_2 = some (r1, r2)) :
  Calls Try.prog 44 #[.int .i64 a0, .agg #[.int .i64 a1_0, .int .i64 a1_1, .int .i64 a1_2], .agg #[.int .i64 a2_0, .int .i64 a2_1, .int .i64 a2_2]] w fun e w' => e = .returned (.tuple #[.int .i64 r1, .int .i64 r2]) ∧ Below w.heap.size w w' := by
 have hu27 := Try.underlying27
 have HB := Aside0.mk (Below.refl w.heap.size w)
 unfold impl_TreeDistance.f at h
 have H := h
 clear h
 obtain ⟨y316, hy316⟩ : ∃ y_ : List (S27), y_ = (([(⟨a1_0, a1_1, a1_2⟩ : S27), (⟨a2_0, a2_1, a2_2⟩ : S27)] : List (S27))) := ⟨_, rfl⟩
 replace H : ((impl_areBalls.f k a0 y316).bind fun t319 => (if t319 = true then ((impl_distance.f k a0 a1_0 a1_1 a1_2 a2_0 a2_1 a2_2).bind fun t320 => (some (t320, 0))) else (some (0, 1)))) = some (r1, r2) := by first | exact hy316 ▸ H | exact H
 have Ny316 := Aside0.mk hy316
 clear hy316
 replace H := zi H
 obtain ⟨t319, A4, H⟩ := H
 try dsimp only at H
 by_cases c5 : t319 = true
 ·subst c5
  rw [if_pos rfl] at H
  replace H := zi H
  obtain ⟨t320, A6, H⟩ := H
  try dsimp only at H
  simp only [Option.some.injEq, Prod.mk.injEq] at H
  obtain ⟨rfl, rfl⟩ := H
  go_enter Try.func44, Try.ntmps44
  go_wp2_with (first | ((with_reducible refine zg 4 rfl ?_); refine z3 4 27 a1_0 a1_1 a1_2 ?_; intro gb314 hg w7 BK314 hb; have GW314 := sg hg; replace HB := bs hb; clear hb hg) | ((with_reducible refine zg 5 rfl ?_); refine z3 5 27 a2_0 a2_1 a2_2 ?_; intro gb315 hg w8 BK315 hb; have GW315 := sg hg; have NB314_315 := nl hg BK314; replace BK314 := bb BK314 hb; replace HB := bs hb; clear hb hg; obtain ⟨hnb9, hnc9⟩ := zn NB314_315; obtain ⟨hcz10_0, hcz10_1, hcz10_2, hfz10_0, hfz10_1, hfz10_2⟩ := cq3 BK314; obtain ⟨hcz11_0, hcz11_1, hcz11_2, hfz11_0, hfz11_1, hfz11_2⟩ := cq3 BK315) | ((with_reducible refine zg 11 rfl ?_); refine Kd.R_lit k27 _ 27 ?hg (N := 11) ?hd (xs := ([(⟨a1_0, a1_1, a1_2⟩ : S27), (⟨a2_0, a2_1, a2_2⟩ : S27)] : List (S27))) (inner := [.int .i64 a1_0, .int .i64 a1_1, .int .i64 a1_2, .int .i64 a2_0, .int .i64 a2_1, .int .i64 a2_2]) (ok := fun _ => True) (okp := fun _ => True) ?hr ?hp (fun _ hk => hk) trivial (Below.refl _ _) (Nat.le_refl _) (by simp) ?_; (case hd => rfl); (case hg => rfl); (case hr => first | (go_simp; done) | (go_simp; rfl)); (case hp => exact (Reps.c3 (show Kd.M k27 _ _ _ (⟨a1_0, a1_1, a1_2⟩ : S27) [.int .i64 a1_0, .int .i64 a1_1, .int .i64 a1_2] from (k27_mkM _ _ _ (⟨a1_0, a1_1, a1_2⟩ : S27) )) (Reps.c3 (show Kd.M k27 _ _ _ (⟨a2_0, a2_1, a2_2⟩ : S27) [.int .i64 a2_0, .int .i64 a2_1, .int .i64 a2_2] from (k27_mkM _ _ _ (⟨a2_0, a2_1, a2_2⟩ : S27) )) (Reps.none _ _)))); intro v317 w12 ho13 hb hg_ hnew_; clear hg_ hnew_; (first | rw [← Ny316.out] at ho13 | (simp only [Int.reduceToNat] at ho13; rw [← Ny316.out] at ho13)); have HO318 := Aside0.mk (Kd.R_lower (Kd.R_newB (Kd.R_newB ho13 (g := gb314) (o := .cells #[.int .i64 a1_0, .int .i64 a1_1, .int .i64 a1_2] 27 (0, 0)) (be BK314)) (g := gb315) (o := .cells #[.int .i64 a2_0, .int .i64 a2_1, .int .i64 a2_2] 27 (0, 0)) (be BK315)) (below_size (by repeat (first | (with_reducible first | exact HB.out | apply below_alloc | apply pw_below_drewN | apply below_drew1 | refine below_set ?_ GW314.out | refine below_set ?_ GW315.out) | exact HB.out)))); replace BK314 := bb BK314 hb; replace BK315 := bb BK315 hb; replace HB := bs hb; clear hb ho13; obtain ⟨Ao14, co14, eo14⟩ := Kd.R_slice HO318.out; subst eo14) | ((with_reducible refine zf 83 rfl ?_); refine g1 (some 12) Try.func83 #[.int .i64 a0, .slice Ao14 y316.length co14] ?_; (with_reducible refine (impl_areBalls.calls k a0 _ _ y316 true _ ?side1 ?side2 A4.out).mono ?_); (case side1 => repeat (first | exact (Kd.R_reads' HO318.out).2.2 | (with_reducible refine Kd.C_alloc ?_ _) | (with_reducible refine Kd.C_drewN ?_ _) | (with_reducible refine Kd.C_drew ?_))); (case side2 => exact (Kd.R_reads' HO318.out).2.1); rintro e w15 ⟨rfl, hb⟩; refine ⟨_, rfl, ?_⟩; replace HO318 := Aside0.mk (Kd.R_below (by (with_reducible repeat (first | apply Kd.R_alloc | apply Kd.R_drewN | apply Kd.R_drew)); exact HO318.out) hb); replace BK314 := bb BK314 hb; replace BK315 := bb BK315 hb; replace HB := bs hb; (try clear hb); obtain ⟨hcz16_0, hcz16_1, hcz16_2, hfz16_0, hfz16_1, hfz16_2⟩ := cq3 BK314; obtain ⟨hcz17_0, hcz17_1, hcz17_2, hfz17_0, hfz17_1, hfz17_2⟩ := cq3 BK315) | ((with_reducible refine zf 110 rfl ?_); refine g1 (some 17) Try.func110 #[.int .i64 a0, .agg #[.int .i64 a1_0, .int .i64 a1_1, .int .i64 a1_2], .agg #[.int .i64 a2_0, .int .i64 a2_1, .int .i64 a2_2]] ?_; (with_reducible refine (impl_distance.calls k a0 a1_0 a1_1 a1_2 a2_0 a2_1 a2_2 t320 _ A6.out).mono ?_); rintro e w18 ⟨rfl, hb⟩; refine ⟨_, rfl, ?_⟩; replace HO318 := Aside0.mk (Kd.R_below (by (with_reducible repeat (first | apply Kd.R_alloc | apply Kd.R_drewN | apply Kd.R_drew)); exact HO318.out) hb); replace BK314 := bb BK314 hb; replace BK315 := bb BK315 hb; replace HB := bs hb; (try clear hb)))
  go_ret2
  exact ⟨er, by repeat (first | (with_reducible first | exact HB.out | apply below_alloc | apply pw_below_drewN | apply below_drew1 | refine below_set ?_ GW314.out | refine below_set ?_ GW315.out) | exact HB.out)⟩
 ·replace c5 := Bool.eq_false_iff.mpr c5
  subst c5
  have H1 : (some (0, 1)) = some (r1, r2) := by rw [if_neg (show ¬ (false = true) by decide)] at H; exact H
  clear H
  have H := H1
  clear H1
  simp only [Option.some.injEq, Prod.mk.injEq] at H
  obtain ⟨rfl, rfl⟩ := H
  go_enter Try.func44, Try.ntmps44
  go_wp2_with (first | ((with_reducible refine zg 4 rfl ?_); refine z3 4 27 a1_0 a1_1 a1_2 ?_; intro gb314 hg w19 BK314 hb; have GW314 := sg hg; replace HB := bs hb; clear hb hg) | ((with_reducible refine zg 5 rfl ?_); refine z3 5 27 a2_0 a2_1 a2_2 ?_; intro gb315 hg w20 BK315 hb; have GW315 := sg hg; have NB314_315 := nl hg BK314; replace BK314 := bb BK314 hb; replace HB := bs hb; clear hb hg; obtain ⟨hnb21, hnc21⟩ := zn NB314_315; obtain ⟨hcz22_0, hcz22_1, hcz22_2, hfz22_0, hfz22_1, hfz22_2⟩ := cq3 BK314; obtain ⟨hcz23_0, hcz23_1, hcz23_2, hfz23_0, hfz23_1, hfz23_2⟩ := cq3 BK315) | ((with_reducible refine zg 11 rfl ?_); refine Kd.R_lit k27 _ 27 ?hg (N := 11) ?hd (xs := ([(⟨a1_0, a1_1, a1_2⟩ : S27), (⟨a2_0, a2_1, a2_2⟩ : S27)] : List (S27))) (inner := [.int .i64 a1_0, .int .i64 a1_1, .int .i64 a1_2, .int .i64 a2_0, .int .i64 a2_1, .int .i64 a2_2]) (ok := fun _ => True) (okp := fun _ => True) ?hr ?hp (fun _ hk => hk) trivial (Below.refl _ _) (Nat.le_refl _) (by simp) ?_; (case hd => rfl); (case hg => rfl); (case hr => first | (go_simp; done) | (go_simp; rfl)); (case hp => exact (Reps.c3 (show Kd.M k27 _ _ _ (⟨a1_0, a1_1, a1_2⟩ : S27) [.int .i64 a1_0, .int .i64 a1_1, .int .i64 a1_2] from (k27_mkM _ _ _ (⟨a1_0, a1_1, a1_2⟩ : S27) )) (Reps.c3 (show Kd.M k27 _ _ _ (⟨a2_0, a2_1, a2_2⟩ : S27) [.int .i64 a2_0, .int .i64 a2_1, .int .i64 a2_2] from (k27_mkM _ _ _ (⟨a2_0, a2_1, a2_2⟩ : S27) )) (Reps.none _ _)))); intro v317 w24 ho25 hb hg_ hnew_; clear hg_ hnew_; (first | rw [← Ny316.out] at ho25 | (simp only [Int.reduceToNat] at ho25; rw [← Ny316.out] at ho25)); have HO318 := Aside0.mk (Kd.R_lower (Kd.R_newB (Kd.R_newB ho25 (g := gb314) (o := .cells #[.int .i64 a1_0, .int .i64 a1_1, .int .i64 a1_2] 27 (0, 0)) (be BK314)) (g := gb315) (o := .cells #[.int .i64 a2_0, .int .i64 a2_1, .int .i64 a2_2] 27 (0, 0)) (be BK315)) (below_size (by repeat (first | (with_reducible first | exact HB.out | apply below_alloc | apply pw_below_drewN | apply below_drew1 | refine below_set ?_ GW314.out | refine below_set ?_ GW315.out) | exact HB.out)))); replace BK314 := bb BK314 hb; replace BK315 := bb BK315 hb; replace HB := bs hb; clear hb ho25; obtain ⟨Ao26, co26, eo26⟩ := Kd.R_slice HO318.out; subst eo26) | ((with_reducible refine zf 83 rfl ?_); refine g1 (some 12) Try.func83 #[.int .i64 a0, .slice Ao26 y316.length co26] ?_; (with_reducible refine (impl_areBalls.calls k a0 _ _ y316 false _ ?side1 ?side2 A4.out).mono ?_); (case side1 => repeat (first | exact (Kd.R_reads' HO318.out).2.2 | (with_reducible refine Kd.C_alloc ?_ _) | (with_reducible refine Kd.C_drewN ?_ _) | (with_reducible refine Kd.C_drew ?_))); (case side2 => exact (Kd.R_reads' HO318.out).2.1); rintro e w27 ⟨rfl, hb⟩; refine ⟨_, rfl, ?_⟩; replace HO318 := Aside0.mk (Kd.R_below (by (with_reducible repeat (first | apply Kd.R_alloc | apply Kd.R_drewN | apply Kd.R_drew)); exact HO318.out) hb); replace BK314 := bb BK314 hb; replace BK315 := bb BK315 hb; replace HB := bs hb; (try clear hb)))
  go_ret2
  exact ⟨er, by repeat (first | (with_reducible first | exact HB.out | apply below_alloc | apply pw_below_drewN | apply below_drew1 | refine below_set ?_ GW314.out | refine below_set ?_ GW315.out) | exact HB.out)⟩

/-- A state of type 127 at block g of W; what its slices lead to came in by w0. -/
def IsS127 (w0 W : World) (g : Nat) (f0 : List Int) (f1 : Int) (f2 : Int) : Prop := ∃ A0 c0, W.heap[g]? = some (.cells #[.slice A0 f0.length c0, .int .i64 f1, .int .u64 f2] 127 (0, 0)) ∧ w0.heap.size ≤ g ∧ Kd.C (Kd.int .u8) w0 A0 f0.length f0
theorem IsS127.grown {w0 W : World} {g : Nat} {f0 : List Int} {f1 : Int} {f2 : Int} {W1 : World} {row : Option Nat} (h : IsS127 w0 W g f0 f1 f2) (hw : W.grownBy W1 row) (hne : some g ≠ row) : IsS127 w0 W1 g f0 f1 f2 := by
 obtain ⟨A0, c0, hb, hg, hr0⟩ := h
 exact ⟨A0, c0, blk_grown hb hw hne, hg, hr0⟩
theorem IsS127.own_neN {w0 W : World} {g : Nat} {f0 : List Int} {f1 : Int} {f2 : Int} {α : Type} {d : Kd α} {e : Nat} {base : Nat} {ok : Nat → Prop} {v : Value} {xs : List α} (h : IsS127 w0 W g f0 f1 f2) (ho : Kd.N d e W base ok v xs) (ht : e ≠ 127) : some g ≠ v.ownBlock := by
 obtain ⟨A0, c0, hb, hg, hr0⟩ := h
 exact Kd.N_ne ho hb ht
theorem IsS127.fresh {w0 W : World} {g : Nat} {f0 : List Int} {f1 : Int} {f2 : Int} (h : IsS127 w0 W g f0 f1 f2) : ∀ k, W.heap.size ≤ k → k ≠ g := by
 obtain ⟨A0, c0, hb, hg, hr0⟩ := h
 exact Kd.freshB hb
theorem IsS127.kept {w0 W : World} {g : Nat} {f0 : List Int} {f1 : Int} {f2 : Int} {W1 : World} {S : Nat → Prop} (h : IsS127 w0 W g f0 f1 f2) (hk : Kept W W1 S) (hne : ¬ S g) : IsS127 w0 W1 g f0 f1 f2 := by
 obtain ⟨A0, c0, hb, hg, hr0⟩ := h
 exact ⟨A0, c0, blk_kept hb hk hne, hg, hr0⟩
theorem IsS127.below {w0 W : World} {g : Nat} {f0 : List Int} {f1 : Int} {f2 : Int} {W1 : World} (h : IsS127 w0 W g f0 f1 f2) (hw : Below W.heap.size W W1) : IsS127 w0 W1 g f0 f1 f2 := h.grown (grown_of_below hw none) (by simp)
theorem IsS127.alloc {w0 W : World} {g : Nat} {f0 : List Int} {f1 : Int} {f2 : Int} (h : IsS127 w0 W g f0 f1 f2) (o : Obj) : IsS127 w0 (W.alloc o) g f0 f1 f2 := h.below (below_alloc (Below.refl _ _) o)
theorem IsS127.drewN {w0 W : World} {g : Nat} {f0 : List Int} {f1 : Int} {f2 : Int} (h : IsS127 w0 W g f0 f1 f2) (m : Nat) : IsS127 w0 (W.drewN m) g f0 f1 f2 := h
theorem IsS127.drew {w0 W : World} {g : Nat} {f0 : List Int} {f1 : Int} {f2 : Int} (h : IsS127 w0 W g f0 f1 f2) : IsS127 w0 W.drew g f0 f1 f2 := h
theorem IsS127.at_ {w0 W : World} {g : Nat} {f0 : List Int} {f1 : Int} {f2 : Int} {w' : World} {m : Nat} (hq : W.drewN m = w') (h : IsS127 w0 W g f0 f1 f2) : IsS127 w0 w' g f0 f1 f2 := by subst hq; exact IsS127.drewN h m
theorem IsS127.apart {w0 W : World} {g : Nat} {f0 : List Int} {f1 : Int} {f2 : Int} {α : Type} {d : Kd α} {e : Nat} {base : Nat} {ok : Nat → Prop} {v : Value} {xs : List α} (h : IsS127 w0 W g f0 f1 f2) (ho : d.R e W base ok v xs) (ht : ∀ q, q ∈ e :: d.E → q ≠ 127) : d.R e W base (fun k => ok k ∧ k ≠ g) v xs := by
 obtain ⟨A0, c0, hb, hg, hr0⟩ := h
 exact Kd.R_types ho hb ht
theorem IsS127.own_ne {w0 W : World} {g : Nat} {f0 : List Int} {f1 : Int} {f2 : Int} {α : Type} {d : Kd α} {e : Nat} {base : Nat} {ok : Nat → Prop} {v : Value} {xs : List α} (h : IsS127 w0 W g f0 f1 f2) (ho : d.R e W base ok v xs) (ht : e ≠ 127) : some g ≠ v.ownBlock := by
 obtain ⟨A0, c0, hb, hg, hr0⟩ := h
 exact Kd.R_ne ho hb ht
theorem IsS127.apartQ {w0 W : World} {g : Nat} {f0 : List Int} {f1 : Int} {f2 : Int} {α : Type} {d : Kd α} {e : Nat} {base : Nat} {ok : Nat → Prop} {v : Value} {xs : List α} (h : IsS127 w0 W g f0 f1 f2) (ho : d.Q e W base ok v xs) (ht : ∀ q, q ∈ e :: d.E → q ≠ 127) : d.Q e W base (fun k => ok k ∧ k ≠ g) v xs := by
 obtain ⟨A0, c0, hb, hg, hr0⟩ := h
 exact Kd.Q_types ho hb ht
theorem IsS127.own_neQ {w0 W : World} {g : Nat} {f0 : List Int} {f1 : Int} {f2 : Int} {α : Type} {d : Kd α} {e : Nat} {base : Nat} {ok : Nat → Prop} {v : Value} {xs : List α} (h : IsS127 w0 W g f0 f1 f2) (ho : d.Q e W base ok v xs) (ht : e ≠ 127) : some g ≠ v.ownBlock := by
 obtain ⟨A0, c0, hb, hg, hr0⟩ := h
 exact Kd.Q_ne ho hb ht
theorem IsS127.apartS {w0 W : World} {g : Nat} {f0 : List Int} {f1 : Int} {f2 : Int} {α : Type} {d : Kd α} {e : Nat} {base : Nat} {ok : Nat → Prop} {v : Value} {xs : List α} (h : IsS127 w0 W g f0 f1 f2) (ho : d.S e W base ok v xs) (ht : ∀ q, q ∈ e :: d.E → q ≠ 127) : d.S e W base (fun k => ok k ∧ k ≠ g) v xs := by
 obtain ⟨A0, c0, hb, hg, hr0⟩ := h
 exact Kd.S_types ho hb ht
theorem IsS127.own_neS {w0 W : World} {g : Nat} {f0 : List Int} {f1 : Int} {f2 : Int} {α : Type} {d : Kd α} {e : Nat} {base : Nat} {ok : Nat → Prop} {v : Value} {xs : List α} (h : IsS127 w0 W g f0 f1 f2) (ho : d.S e W base ok v xs) (ht : e ≠ 127) : some g ≠ v.ownBlock := by
 obtain ⟨A0, c0, hb, hg, hr0⟩ := h
 exact Kd.S_ne ho hb ht
theorem IsS127.lt {w0 W : World} {g : Nat} {f0 : List Int} {f1 : Int} {f2 : Int} (h : IsS127 w0 W g f0 f1 f2) : g < W.heap.size := by
 obtain ⟨A0, c0, hb, hg, hr0⟩ := h
 exact blk_lt hb
theorem IsS127.ge {w0 W : World} {g : Nat} {f0 : List Int} {f1 : Int} {f2 : Int} (h : IsS127 w0 W g f0 f1 f2) : w0.heap.size ≤ g := by
 obtain ⟨A0, c0, hb, hg, hr0⟩ := h
 exact hg
theorem IsS127.ne_blk {w0 W : World} {g : Nat} {f0 : List Int} {f1 : Int} {f2 : Int} {a : Nat} {cs : Array Value} {t : TypeId} {fr : Nat × Nat} (h : IsS127 w0 W g f0 f1 f2) (hb2 : W.heap[a]? = some (.cells cs t fr)) (ht : t ≠ 127) : g ≠ a := by
 obtain ⟨A0, c0, hb, hg, hr0⟩ := h
 rintro rfl
 rw [hb] at hb2
 injection hb2 with hb2
 injection hb2 with _ ht2
 exact ht ht2.symm
theorem IsS127.far {w0 W : World} {g : Nat} {f0 : List Int} {f1 : Int} {f2 : Int} {p : Addr} (h : IsS127 w0 W g f0 f1 f2) (hne : g ≠ p.block) (u : Value) : IsS127 w0 (W.setCell p u) g f0 f1 f2 := by
 obtain ⟨A0, c0, hb, hg, hr0⟩ := h
 exact ⟨A0, c0, blk_far hb hne u, hg, hr0⟩
theorem cellS127_0 {W : World} {g : Nat} {A0 : Option Addr} {c0 : Nat} {f0 : List Int} {f1 : Int} {f2 : Int} (h : W.heap[g]? = some (.cells #[.slice A0 f0.length c0, .int .i64 f1, .int .u64 f2] 127 (0, 0))) : W.cell? ⟨g, 0, none⟩ = some (.slice A0 f0.length c0) := (blk_cell h 0).trans rfl
theorem cellS127_1 {W : World} {g : Nat} {A0 : Option Addr} {c0 : Nat} {f0 : List Int} {f1 : Int} {f2 : Int} (h : W.heap[g]? = some (.cells #[.slice A0 f0.length c0, .int .i64 f1, .int .u64 f2] 127 (0, 0))) : W.cell? ⟨g, 1, none⟩ = some (.int .i64 f1) := (blk_cell h 1).trans rfl
theorem IsS127.set_1 {w0 W : World} {g : Nat} {f0 : List Int} {f1 : Int} {f2 : Int} (h : IsS127 w0 W g f0 f1 f2) (x : Int) : IsS127 w0 (W.setCell ⟨g, 1, none⟩ (.int .i64 x)) g f0 x f2 := by
 obtain ⟨A0, c0, hb, hg, hr0⟩ := h
 exact ⟨A0, c0, by simpa using blk_set hb 1 (.int .i64 x), hg, hr0⟩
theorem cellS127_2 {W : World} {g : Nat} {A0 : Option Addr} {c0 : Nat} {f0 : List Int} {f1 : Int} {f2 : Int} (h : W.heap[g]? = some (.cells #[.slice A0 f0.length c0, .int .i64 f1, .int .u64 f2] 127 (0, 0))) : W.cell? ⟨g, 2, none⟩ = some (.int .u64 f2) := (blk_cell h 2).trans rfl
theorem IsS127.set_2 {w0 W : World} {g : Nat} {f0 : List Int} {f1 : Int} {f2 : Int} (h : IsS127 w0 W g f0 f1 f2) (x : Int) : IsS127 w0 (W.setCell ⟨g, 2, none⟩ (.int .u64 x)) g f0 f1 x := by
 obtain ⟨A0, c0, hb, hg, hr0⟩ := h
 exact ⟨A0, c0, by simpa using blk_set hb 2 (.int .u64 x), hg, hr0⟩
theorem IsS127.new (w0 W : World) (A0 : Option Addr) (c0 : Nat) (f0 : List Int) (f1 : Int) (f2 : Int) (hB : Below w0.heap.size w0 W) (hr0 : Kd.C (Kd.int .u8) w0 A0 f0.length f0) : IsS127 w0 (W.alloc (.cells #[.slice A0 f0.length c0, .int .i64 f1, .int .u64 f2] 127)) W.heap.size f0 f1 f2 := ⟨A0, c0, by simpa using heap_alloc_new W _, hB.size, hr0⟩
theorem IsS127.a {w0 W : World} {g : Nat} {f0 : List Int} {f1 : Int} {f2 : Int} (h : IsS127 w0 W g f0 f1 f2 := by repeat (first | (with_reducible first | exact HI0.out | apply IsS127.alloc | apply IsS127.drewN | apply IsS127.drew | apply IsS127.set_1 | apply IsS127.set_2 | refine IsS127.far ?_ (Aside0.out (by assumption)) _) | exact HI0.out)) : IsS127 w0 W g f0 f1 f2 := h
theorem IsS127.b {w W0 W : World} (hB : Aside0 (Below w.heap.size w W0) := by exact HB)
    (h : Below w.heap.size w W := by repeat (first | (with_reducible first | exact HB.out | apply below_alloc | apply pw_below_drewN | apply below_drew1 | refine below_set ?_ (IsS127.ge HI0.out) | refine below_set ?_ (Aside0.out (by assumption))) | exact HB.out)) : Below w.heap.size w W := h

/-! ### spec_l01From: function 98 -/
def spec_l01From.l0 : Nat → List Int → Int → List Int → Int → Int → Option (List Int × Int × Int)
 | 0, _, _, _, _, _ => none
 | k + 1, x0, x4, x322000, x322001, x322002 => if x4 < (x0.length : Int) then (if x4 < 4096 then (if 0 ≤ x4 then (spec_l01From.l0 k x0 (wrap64 (x4 + 1)) x322000 x322001 (IntKind.u64.wrap ((IntKind.u64.wrap ((IntKind.u64.wrap (x322002 * 1099511628211)) + (IntKind.u64.wrap (rd x0 x4)))) + 71))) else (none)) else (some (x322000, x322001, x322002))) else (some (x322000, x322001, x322002))
def spec_l01From.f (k : Nat) (l0 : List Int) : Option (List Int × Int × Int) := spec_l01From.l0 k l0 0 l0 0 (IntKind.u64.wrap (12527 + (IntKind.u64.wrap ((l0.length : Int)))))
def spec_l01From.T5 : Bool × List (List Nat × List Nat) := (true, [([], []), ([], []), ([1], [1]), ([2], [2]), ([3], [3]), ([4], [4]), ([], []), ([], []), ([6, 7], [6, 7]), ([8], [8]), ([9], [9]), ([5, 10], [5, 10]), ([11], [11]), ([0, 0, 1, 2, 3, 4, 5, 6, 7, 8, 9, 10, 11, 12], [0]), ([13, 0, 1, 2, 3, 4, 5, 6, 7, 8, 9, 10, 11, 12], [13]), ([14, 12, 0, 1, 2, 3, 4, 5, 6, 7, 8, 9, 10, 11, 12], [12, 14])])
def spec_l01From.B5 : List Nat := [0, 0, 2, 6, 14, 30, 0, 0, 192, 448, 960, 2046, 4094, 8191, 16383, 32767]
theorem spec_l01From.tab5 : rtab .any (opsOf Try.f98 5) = spec_l01From.T5 := by kernel_rfl
theorem spec_l01From.bits5 : waitsOk spec_l01From.T5.2 spec_l01From.B5 = true := by kernel_rfl
set_option maxHeartbeats 8000000 in
set_option maxRecDepth 100000 in
theorem spec_l01From.calls (k : Nat) (A0 : Option Addr) (c0 : Nat) (l0 : List Int) (r1 : List Int) (r2 : Int) (r3 : Int) (w0 w : World) (hB : Below w0.heap.size w0 w) (hr0 : Kd.C (Kd.int .u8) w0 A0 l0.length l0) (hc0 : l0.length ≤ c0) (h : spec_l01From.f k l0 = some (r1, r2, r3)) :
  Calls Try.prog 98 #[.slice A0 l0.length c0] w fun e w' => ∃ g_ : Nat, e = .returned (.pointer (some ⟨g_, 0, none⟩)) ∧ IsS127 w0 w' g_ r1 r2 r3 ∧ Below w0.heap.size w0 w' ∧ Below w.heap.size w w' := by
 have hu127 := Try.underlying127
 have HR0 := Aside0.mk hr0
 have HC0 := Aside0.mk hc0
 clear hr0 hc0
 have HBW := Aside0.mk (Below.refl w.heap.size w)
 have HW0 := Aside0.mk hB.size
 have HB := Aside0.mk hB
 clear hB
 unfold spec_l01From.f at h
 have H := h
 clear h
 have H' := Aside0.mk H
 clear H
 go_enter Try.func98, Try.ntmps98
 go_wp2_with (first | ((with_reducible refine zg 11 rfl ?_); refine zb 11 127 #[.slice A0 l0.length c0, .int .i64 0, .int .u64 (IntKind.u64.wrap (12527 + (IntKind.u64.wrap ((l0.length : Int)))))] ?_; intro gb321 hg w2 BK321 hb; have GW321 := Aside0.mk ((by rw [hg]; exact (below_size (by repeat (first | (with_reducible first | exact HBW.out | apply below_alloc | apply pw_below_drewN | apply below_drew1) | exact HBW.out))) : w.heap.size ≤ gb321)); have GE321 := Aside0.mk ((Nat.le_trans HW0.out (by rw [hg]; exact (below_size (by repeat (first | (with_reducible first | exact HBW.out | apply below_alloc | apply pw_below_drewN | apply below_drew1) | exact HBW.out))) : w.heap.size ≤ gb321) : w0.heap.size ≤ gb321)); replace HBW := Aside0.mk (below_step HBW.out hb); replace HB := bs hb; clear hb hg))
 go_loopg [4] k (fun kq v4 w' => ∃ (x4_1 : Int) (x322002_1 : Int), v4 = .int .i64 x4_1 ∧ Aside0 (spec_l01From.l0 kq l0 x4_1 l0 0 x322002_1 = some (r1, r2, r3)) ∧ Aside0 (kq ≤ k) ∧ Aside0 (w'.heap[gb321]? = some (.cells #[(.slice A0 l0.length c0), .int .i64 0, .int .u64 x322002_1] 127 (0, 0))) ∧ Aside0 (Below w0.heap.size w0 w') ∧ Aside0 (Below w.heap.size w w'))
 case atStart => exact ⟨(0), (IntKind.u64.wrap (12527 + (IntKind.u64.wrap ((l0.length : Int))))), (by first | rfl | (simp; done) | (simp [*]; done)), H', ⟨Nat.le_refl _⟩, ⟨be BK321⟩, ⟨bl⟩, ⟨by repeat (first | (with_reducible first | exact HBW.out | apply below_alloc | apply pw_below_drewN | apply below_drew1 | refine below_set ?_ GW321.out) | exact HBW.out)⟩⟩
 case round =>
  clear H'
  obtain ⟨x4_1, x322002_1, rfl, HA, HK1, BK321, HB, HBW⟩ := hrel
  cases gk with
  | zero => exact absurd HA.out (by simp [spec_l01From.l0])
  | succ k1 =>
   have H := HA.out
   clear HA
   simp only [spec_l01From.l0] at H
   replace H := ii H
   rcases H with ⟨c3, H⟩ | ⟨c3, H⟩
   ·have c3b0 := decide_eq_true c3
    clear c3
    replace H := ii H
    rcases H with ⟨c4, H⟩ | ⟨c4, H⟩
    ·have c4b0 := decide_eq_true c4
     clear c4
     replace H := ii H
     rcases H with ⟨c5, H⟩ | ⟨c5, H⟩
     ·have c5b0 := decide_eq_true c5
      clear c5
      have H' := Aside0.mk H
      clear H
      try go_wp2
      have n0_ := Aside0.mk (blk_drew BK321.out)
      have n1_ := Aside0.mk (below_drew1 HB.out)
      have n1w_ := Aside0.mk (below_drew1 HBW.out)
      clear BK321
      clear HB
      clear HBW
      have BK321 := n0_
      have HB := n1_
      have HBW := n1w_
      clear n0_ n1_
      have p322 : 0 ≤ (x4_1 : Int) := za
      have q322 : x4_1 < (l0.length : Int) := za
      obtain ⟨ad322, e322, hx322_0⟩ := Kd.at_int HR0.out x4_1 p322 q322
      have hw322_0 := hx322_0
      cases e322
      replace hx322_0 := pw_cell_below HB.out hx322_0
      replace p322 := eq_true p322
      replace q322 := eq_true q322
      refine start_ (n := 16) (S := fun w' => w'.cell? ⟨gb321, 0, none⟩ = some (.slice (some ad322) l0.length c0) ∧ w'.cell? ⟨gb321, 1, none⟩ = some (.int .i64 0) ∧ w'.cell? ⟨gb321, 2, none⟩ = some (.int .u64 x322002_1) ∧ w'.cell? (ad322.add (x4_1).toNat) = some (.int .u8 (rd l0 x4_1))) (ds := [15]) (tA 16 0) (by kernel_rfl) rfl rfl ⟨(blk_cell BK321.out 0).trans rfl, (blk_cell BK321.out 1).trans rfl, (blk_cell BK321.out 2).trans rfl, ((HB.out.cell (World.block_lt_of_cell? _ _ hw322_0)).trans hw322_0)⟩ (fun hHeld => ?_); refine with_tabW spec_l01From.tab5 spec_l01From.bits5 (fun HT_ HW_ => ?_)
      generalize wr.drew = w6 at BK321 HB HBW hx322_0 hHeld ⊢
      refine pu 0 (some 22) (tA 16 1) HT_ ?_
      refine pu 1 (some 23) (tA 16 3) HT_ ?_
      refine pu 2 (some 24) (tA 16 7) HT_ ?_
      refine pu 3 (some 25) (tA 16 15) HT_ ?_
      refine pu 6 (some 28) (tA 16 79) HT_ ?_
      refine pu 7 (some 29) (tA 16 207) HT_ ?_
      refine pu 8 (some 30) (tA 16 463) HT_ ?_
      refine tk4 4 (some 26) (tA 16 479) HT_ HW_ hHeld ?_
      refine pu 5 (some 27) (tA 16 511) HT_ ?_
      refine tk4 9 (some 31) (tA 16 1023) HT_ HW_ hHeld ?_
      refine pu 10 (some 32) (tA 16 2047) HT_ ?_
      refine pu 11 (some 33) (tA 16 4095) HT_ ?_
      refine pu 12 (some 34) (tA 16 8191) HT_ ?_
      refine pu 13 (some 35) (tA 16 16383) HT_ ?_
      refine pu 14 (some 36) (tA 16 32767) HT_ ?_
      refine last_ (i := 15) (N := none) (tA 16 65535) rfl rfl (one_of HT_.out (by kernel_rfl)) (by decide) (fun K hK => ?_)
      have hs7 : w6.cell? ⟨gb321, 2, none⟩ = some (.int .u64 x322002_1) := (blk_cell BK321.out 2).trans rfl
      have hfs7 := blk_frozen BK321.out 2
      refine skip_ (w1 := ?_) (by rfl) rfl ?_ ?_
      rotate_left
      ·go_simp
       rfl
      refine hK.out _ _ ?_
      clear hK K
      refine done_ (done_of HT_.out (by kernel_rfl)) ?_
      try go_wp2
      go_roundg k1
      case measure => have := HK1.out; omega
      case rel => exact ⟨(wrap64 (x4_1 + 1)), (IntKind.u64.wrap ((IntKind.u64.wrap ((IntKind.u64.wrap (x322002_1 * 1099511628211)) + (IntKind.u64.wrap (rd l0 x4_1)))) + 71)), (by first | rfl | (simp; done) | (simp [*]; done)), H', ⟨by have := HK1.out; omega⟩, ⟨bp⟩, ⟨bl⟩, ⟨by repeat (first | (with_reducible first | exact HBW.out | apply below_alloc | apply pw_below_drewN | apply below_drew1 | refine below_set ?_ GW321.out) | exact HBW.out)⟩⟩
     ·exact absurd H (by simp)
    ·have c4b0 := decide_eq_false c4
     clear c4
     simp only [Option.some.injEq, Prod.mk.injEq] at H
     obtain ⟨rfl, rfl, rfl⟩ := H
     go_wp2
     go_ret
     exact ⟨_, rfl, (show IsS127 w0 _ gb321 l0 0 x322002_1 from ⟨_, _, bp, GE321.out, HR0.out⟩), bl, by repeat (first | (with_reducible first | exact HBW.out | apply below_alloc | apply pw_below_drewN | apply below_drew1 | refine below_set ?_ GW321.out) | exact HBW.out)⟩
   ·have c3b0 := decide_eq_false c3
    clear c3
    simp only [Option.some.injEq, Prod.mk.injEq] at H
    obtain ⟨rfl, rfl, rfl⟩ := H
    go_wp2
    go_ret
    exact ⟨_, rfl, (show IsS127 w0 _ gb321 l0 0 x322002_1 from ⟨_, _, bp, GE321.out, HR0.out⟩), bl, by repeat (first | (with_reducible first | exact HBW.out | apply below_alloc | apply pw_below_drewN | apply below_drew1 | refine below_set ?_ GW321.out) | exact HBW.out)⟩

/-! ### spec_l01Next: function 101 -/
def spec_l01Next.f (s0_0 : List Int) (s0_1 : Int) (s0_2 : Int) (a1 : Int) : Option (Int × Int × Int) := if a1 < 1 then (some (0, s0_1, s0_2)) else (if s0_1 < (s0_0.length : Int) then (if 0 ≤ s0_1 then (if a1 = 0 then (none) else (some (Int.tmod (wrap64 ((wrap64 (Go.bits .and .u64 ((IntKind.u64.wrap ((IntKind.u64.wrap (s0_2 * 6364136223846793005)) + 1442695040888963407)) / 8388608) 17179869183)) + (wrap64 (rd s0_0 s0_1)))) a1, wrap64 (s0_1 + 1), IntKind.u64.wrap ((IntKind.u64.wrap (s0_2 * 6364136223846793005)) + 1442695040888963407)))) else (none)) else (if a1 = 0 then (none) else (some (Int.tmod (wrap64 (Go.bits .and .u64 ((IntKind.u64.wrap ((IntKind.u64.wrap (s0_2 * 6364136223846793005)) + 1442695040888963407)) / 8388608) 17179869183)) a1, s0_1, IntKind.u64.wrap ((IntKind.u64.wrap (s0_2 * 6364136223846793005)) + 1442695040888963407)))))
set_option maxHeartbeats 8000000 in
set_option maxRecDepth 100000 in
theorem spec_l01Next.calls (g : Nat) (s0_0 : List Int) (s0_1 : Int) (s0_2 : Int) (a1 : Int) (r1 : Int) (r2 : Int) (r3 : Int) (w0 w : World) (hI : IsS127 w0 w g s0_0 s0_1 s0_2) (hB : Below w0.heap.size w0 w) (h : spec_l01Next.f s0_0 s0_1 s0_2 a1 = some (r1, r2, r3)) :
  Calls Try.prog 101 #[.pointer (some ⟨g, 0, none⟩), .int .i64 a1] w fun e w' => e = .returned (.int .i64 r1) ∧ IsS127 w0 w' g s0_0 r2 r3 ∧ Below w0.heap.size w0 w' ∧ KeepBut w w' g none := by
 have HI0 := Aside0.mk hI
 have HK := Aside0.mk (KeepBut.refl w g none)
 have HL := Aside0.mk hB.size
 clear hI
 have HW0 := Aside0.mk hB.size
 have HB := Aside0.mk hB
 clear hB
 unfold spec_l01Next.f at h
 have H := h
 clear h
 replace H := ii H
 rcases H with ⟨c3, H⟩ | ⟨c3, H⟩
 ·have c3b0 := decide_eq_true c3
  clear c3
  simp only [Option.some.injEq, Prod.mk.injEq] at H
  obtain ⟨rfl, rfl, rfl⟩ := H
  go_enter Try.func101, Try.ntmps101
  go_wp2
  repeat (go_quiet (fail); try go_wp2)
  go_ret
  exact ⟨er, IsS127.a, IsS127.b, kl⟩
 ·have c3b0 := decide_eq_false c3
  clear c3
  replace H := ii H
  rcases H with ⟨c4, H⟩ | ⟨c4, H⟩
  ·have c4b0 := decide_eq_true c4
   clear c4
   replace H := ii H
   rcases H with ⟨c5, H⟩ | ⟨c5, H⟩
   ·have c5b0 := decide_eq_true c5
    clear c5
    replace H := ii H
    rcases H with ⟨c6, H⟩ | ⟨c6, H⟩
    ·exact absurd H (by simp)
    ·obtain ⟨c6b0, c6b1⟩ := zy c6
     simp only [Option.some.injEq, Prod.mk.injEq] at H
     obtain ⟨rfl, rfl, rfl⟩ := H
     obtain ⟨ASz7_0, cSz7_0, HGz7, hgz7, HSz7_0⟩ := HI0.out
     have hcz7_0 := cellS127_0 HGz7
     have hcz7_1 := cellS127_1 HGz7
     have hcz7_2 := cellS127_2 HGz7
     have hfz7_1 := blk_frozen HGz7 1
     have hfz7_2 := blk_frozen HGz7 2
     clear HGz7 hgz7
     have p323 : 0 ≤ (s0_1 : Int) := za
     have q323 : s0_1 < (s0_0.length : Int) := za
     obtain ⟨ad323, e323, hx323_0⟩ := Kd.at_int HSz7_0 s0_1 p323 q323
     cases e323
     have hn323_0 : ad323.block ≠ g := Nat.ne_of_lt (Nat.lt_of_lt_of_le (by have := World.block_lt_of_cell? _ _ hx323_0; first | rwa [add_block] at this | exact this) (IsS127.ge HI0.out))
     replace hx323_0 := pw_cell_below HB.out hx323_0
     replace hx323_0 := (cell_far (p := ⟨g, 2, none⟩) (by first | (rw [add_block]; exact hn323_0) | (show (Addr.add _ _).block ≠ _; rw [add_block]; exact hn323_0) | exact hn323_0) (.int .u64 (IntKind.u64.wrap ((IntKind.u64.wrap (s0_2 * 6364136223846793005)) + 1442695040888963407)))).trans hx323_0
     (try have hy323_0 := fun (n_ : Nat) => (show (((w.drewN n_).setCell ⟨g, 2, none⟩ (.int .u64 (IntKind.u64.wrap ((IntKind.u64.wrap (s0_2 * 6364136223846793005)) + 1442695040888963407))))).cell? _ = some _ from hx323_0))
     clear hn323_0
     replace p323 := eq_true p323
     replace q323 := eq_true q323
     go_enter Try.func101, Try.ntmps101
     go_wp2
     repeat (go_quiet (fail); try go_wp2)
     go_ret
     exact ⟨er, IsS127.a, IsS127.b, kl⟩
   ·exact absurd H (by simp)
  ·have c4b0 := decide_eq_false c4
   clear c4
   replace H := ii H
   rcases H with ⟨c8, H⟩ | ⟨c8, H⟩
   ·exact absurd H (by simp)
   ·obtain ⟨c8b0, c8b1⟩ := zy c8
    simp only [Option.some.injEq, Prod.mk.injEq] at H
    obtain ⟨rfl, rfl, rfl⟩ := H
    obtain ⟨ASz9_0, cSz9_0, HGz9, hgz9, HSz9_0⟩ := HI0.out
    have hcz9_0 := cellS127_0 HGz9
    have hcz9_1 := cellS127_1 HGz9
    have hcz9_2 := cellS127_2 HGz9
    have hfz9_1 := blk_frozen HGz9 1
    have hfz9_2 := blk_frozen HGz9 2
    clear HGz9 hgz9
    go_enter Try.func101, Try.ntmps101
    go_wp2
    repeat (go_quiet (fail); try go_wp2)
    go_ret
    exact ⟨er, IsS127.a, IsS127.b, kl⟩

/-! ### spec_l01Pick: function 100 -/
def spec_l01Pick.f (s0_0 : List Int) (s0_1 : Int) (s0_2 : Int) (l1 : List Int) : Option (Int × Int × Int) := (spec_l01Next.f s0_0 s0_1 s0_2 (l1.length : Int)).bind fun bt324 => (if 0 ≤ bt324.1 then (if bt324.1 < (l1.length : Int) then (some (rd l1 bt324.1, bt324.2.1, bt324.2.2)) else (none)) else (none))
set_option maxHeartbeats 8000000 in
set_option maxRecDepth 100000 in
theorem spec_l01Pick.calls (g : Nat) (s0_0 : List Int) (s0_1 : Int) (s0_2 : Int) (A1 : Option Addr) (c1 : Nat) (l1 : List Int) (r1 : Int) (r2 : Int) (r3 : Int) (w0 w : World) (hI : IsS127 w0 w g s0_0 s0_1 s0_2) (hB : Below w0.heap.size w0 w) (hr1 : Kd.C (Kd.int .i64) w A1 l1.length l1) (hc1 : l1.length ≤ c1) (hf1 : ∀ ad, A1 = some ad → 0 < l1.length → ad.block ≠ g) (h : spec_l01Pick.f s0_0 s0_1 s0_2 l1 = some (r1, r2, r3)) :
  Calls Try.prog 100 #[.pointer (some ⟨g, 0, none⟩), .slice A1 l1.length c1] w fun e w' => e = .returned (.int .i64 r1) ∧ IsS127 w0 w' g s0_0 r2 r3 ∧ Below w0.heap.size w0 w' ∧ KeepBut w w' g none := by
 have HR1 := Aside0.mk hr1
 have HC1 := Aside0.mk hc1
 clear hr1 hc1
 have HI0 := Aside0.mk hI
 have HK := Aside0.mk (KeepBut.refl w g none)
 have HL := Aside0.mk hB.size
 clear hI
 have HW0 := Aside0.mk hB.size
 have HB := Aside0.mk hB
 clear hB
 unfold spec_l01Pick.f at h
 have H := h
 clear h
 replace H := zi H
 obtain ⟨⟨t324, t325, t326⟩, A3, H⟩ := H
 try dsimp only at H
 replace H := ii H
 rcases H with ⟨c4, H⟩ | ⟨c4, H⟩
 ·have c4b0 := decide_eq_true c4
  clear c4
  replace H := ii H
  rcases H with ⟨c5, H⟩ | ⟨c5, H⟩
  ·have c5b0 := decide_eq_true c5
   clear c5
   simp only [Option.some.injEq, Prod.mk.injEq] at H
   obtain ⟨rfl, rfl, rfl⟩ := H
   go_enter Try.func100, Try.ntmps100
   go_wp2_with (first | ((with_reducible refine zf 101 rfl ?_); refine g1 (some 9) Try.func101 #[.pointer (some ⟨g, 0, none⟩), .int .i64 (l1.length : Int)] ?_; (with_reducible refine (spec_l01Next.calls g s0_0 s0_1 s0_2 (l1.length : Int) t324 t325 t326 w0 _ ?side1 ?side2 A3.out).mono ?_); (case side1 => exact IsS127.a); (case side2 => exact IsS127.b); rintro e w6 ⟨rfl, hi, hb, hk⟩; refine ⟨_, rfl, ?_⟩; replace HK := Aside0.mk (KeepBut.trans (kl) hk (.inl rfl)); replace HI0 := Aside0.mk (hi); replace HB := Aside0.mk (hb); (try clear hb hk); have p327 : 0 ≤ (t324 : Int) := of_decide_eq_true (by first | (with_reducible assumption) | assumption); have q327 : t324 < (l1.length : Int) := of_decide_eq_true (by first | (with_reducible assumption) | assumption); obtain ⟨ad327, e327, hx327_0⟩ := Kd.at_int HR1.out t324 p327 q327; cases e327; replace hx327_0 := keep_cell HK.out hx327_0 (by first | (rw [add_block]; exact hf1 _ rfl (by omega)) | exact hf1 _ rfl (by omega) | exact hf1 ad327 rfl (by omega)); replace p327 := eq_true p327; replace q327 := eq_true q327))
   go_ret
   exact ⟨er, IsS127.a, IsS127.b, kl⟩
  ·exact absurd H (by simp)
 ·exact absurd H (by simp)

/-! ### spec_l01Draw: function 116 -/
def spec_l01Draw.f (k : Nat) (s0_0 : List Int) (s0_1 : Int) (s0_2 : Int) (a1 : Int) : Option (Int × Int × Int × Int × Int) := (spec_l01Next.f s0_0 s0_1 s0_2 13).bind fun bt329 => ((spec_l01Pick.f s0_0 bt329.2.1 bt329.2.2 (([0, 1, 2, 3, wrap64 (bt329.1 - 6)] : List Int))).bind fun bt335 => ((spec_l01Next.f s0_0 bt335.2.1 bt335.2.2 6).bind fun bt338 => (if bt338.1 = 0 then (some (bt335.1, 0, 0, bt338.2.1, bt338.2.2)) else ((spec_l01Next.f s0_0 bt338.2.1 bt338.2.2 20).bind fun bt341 => ((spec_l01Next.f s0_0 bt341.2.1 bt341.2.2 2000000).bind fun bt344 => ((spec_l01Pick.f s0_0 bt344.2.1 bt344.2.2 (([wrap64 (bt341.1 - 10), wrap64 (bt344.1 - 1000000)] : List Int))).bind fun bt350 => ((spec_l01Next.f s0_0 bt350.2.1 bt350.2.2 7).bind fun bt353 => ((spec_l01Pick.f s0_0 bt353.2.1 bt353.2.2 (([0, 0, 1, 2, bt353.1] : List Int))).bind fun bt359 => ((spec_l01Power.f k a1 bt359.1).bind fun t362 => ((spec_l01Of.f k a1 bt350.1 t362 bt335.1).bind fun bt363 => (if bt363.2.2.2 = true then (some (bt363.1, bt363.2.1, bt363.2.2.1, bt359.2.1, bt359.2.2)) else (some (bt335.1, 0, 0, bt359.2.1, bt359.2.2)))))))))))))
set_option maxHeartbeats 8000000 in
set_option maxRecDepth 100000 in
theorem spec_l01Draw.calls (k : Nat) (g : Nat) (s0_0 : List Int) (s0_1 : Int) (s0_2 : Int) (a1 : Int) (r1 : Int) (r2 : Int) (r3 : Int) (r4 : Int) (r5 : Int) (w0 w : World) (hI : IsS127 w0 w g s0_0 s0_1 s0_2) (hB : Below w0.heap.size w0 w) (h : spec_l01Draw.f k s0_0 s0_1 s0_2 a1 = some (r1, r2, r3, r4, r5)) :
  Calls Try.prog 116 #[.pointer (some ⟨g, 0, none⟩), .int .i64 a1] w fun e w' => e = .returned (.agg #[.int .i64 r1, .int .i64 r2, .int .i64 r3]) ∧ IsS127 w0 w' g s0_0 r4 r5 ∧ Below w0.heap.size w0 w' ∧ KeepBut w w' g none := by
 have hu27 := Try.underlying27
 have HI0 := Aside0.mk hI
 have HK := Aside0.mk (KeepBut.refl w g none)
 have HL := Aside0.mk hB.size
 clear hI
 have HW0 := Aside0.mk hB.size
 have HB := Aside0.mk hB
 clear hB
 unfold spec_l01Draw.f at h
 have H := h
 clear h
 replace H := zi H
 obtain ⟨⟨t329, t330, t331⟩, A3, H⟩ := H
 try dsimp only at H
 obtain ⟨y332, hy332⟩ : ∃ y_ : List Int, y_ = (([0, 1, 2, 3, wrap64 (t329 - 6)] : List Int)) := ⟨_, rfl⟩
 replace H : ((spec_l01Pick.f s0_0 t330 t331 y332).bind fun bt335 => ((spec_l01Next.f s0_0 bt335.2.1 bt335.2.2 6).bind fun bt338 => (if bt338.1 = 0 then (some (bt335.1, 0, 0, bt338.2.1, bt338.2.2)) else ((spec_l01Next.f s0_0 bt338.2.1 bt338.2.2 20).bind fun bt341 => ((spec_l01Next.f s0_0 bt341.2.1 bt341.2.2 2000000).bind fun bt344 => ((spec_l01Pick.f s0_0 bt344.2.1 bt344.2.2 (([wrap64 (bt341.1 - 10), wrap64 (bt344.1 - 1000000)] : List Int))).bind fun bt350 => ((spec_l01Next.f s0_0 bt350.2.1 bt350.2.2 7).bind fun bt353 => ((spec_l01Pick.f s0_0 bt353.2.1 bt353.2.2 (([0, 0, 1, 2, bt353.1] : List Int))).bind fun bt359 => ((spec_l01Power.f k a1 bt359.1).bind fun t362 => ((spec_l01Of.f k a1 bt350.1 t362 bt335.1).bind fun bt363 => (if bt363.2.2.2 = true then (some (bt363.1, bt363.2.1, bt363.2.2.1, bt359.2.1, bt359.2.2)) else (some (bt335.1, 0, 0, bt359.2.1, bt359.2.2))))))))))))) = some (r1, r2, r3, r4, r5) := by first | exact hy332 ▸ H | exact H
 have Ny332 := Aside0.mk hy332
 clear hy332
 replace H := zi H
 obtain ⟨⟨t335, t336, t337⟩, A4, H⟩ := H
 try dsimp only at H
 replace H := zi H
 obtain ⟨⟨t338, t339, t340⟩, A5, H⟩ := H
 try dsimp only at H
 replace H := ii H
 rcases H with ⟨c6, H⟩ | ⟨c6, H⟩
 ·obtain ⟨c6b0, c6b1⟩ := zz c6
  clear c6
  simp only [Option.some.injEq, Prod.mk.injEq] at H
  obtain ⟨rfl, rfl, rfl, rfl, rfl⟩ := H
  go_enter Try.func116, Try.ntmps116
  go_wp2_with (first | ((with_reducible refine zg 4 rfl ?_); refine z3 4 27 0 0 0 ?_; intro gb328 hg w7 BK328 hb; have GW328 := Aside0.mk ((by rw [hg]; exact (keep_size (w := w) (g := g) (row := none) (kl)) : w.heap.size ≤ gb328)); have GE328 := Aside0.mk ((Nat.le_trans HW0.out (by rw [hg]; exact (keep_size (w := w) (g := g) (row := none) (kl)) : w.heap.size ≤ gb328) : w0.heap.size ≤ gb328)); have NB0_328 := Aside0.mk ((by rw [hg]; exact Nat.ne_of_lt (IsS127.lt (IsS127.a : IsS127 w0 _ g s0_0 s0_1 s0_2)) : g ≠ gb328)); have NB328_0 := Aside0.mk ((by rw [hg]; exact Nat.ne_of_gt (IsS127.lt (IsS127.a : IsS127 w0 _ g s0_0 s0_1 s0_2)) : gb328 ≠ g)); replace HK := Aside0.mk (KeepBut.trans (kl) (KeepBut.of_below hb g none) (.inl rfl)); replace HB := Aside0.mk (below_step IsS127.b hb); replace HI0 := Aside0.mk (IsS127.below (IsS127.a) hb); clear hb hg) | ((with_reducible refine zf 101 rfl ?_); refine g1 (some 11) Try.func101 #[.pointer (some ⟨g, 0, none⟩), .int .i64 13] ?_; (with_reducible refine (spec_l01Next.calls g s0_0 s0_1 s0_2 13 t329 t330 t331 w0 _ ?side1 ?side2 A3.out).mono ?_); (case side1 => exact IsS127.a); (case side2 => exact IsS127.b); rintro e w8 ⟨rfl, hi, hb, hk⟩; refine ⟨_, rfl, ?_⟩; replace BK328 := kb hk BK328 NB328_0; replace HK := Aside0.mk (KeepBut.trans (kl) hk (.inl rfl)); replace HI0 := Aside0.mk (hi); replace HB := Aside0.mk (hb); (try clear hb hk)) | ((with_reducible refine zg 13 rfl ?_); refine Kd.R_lit (Kd.int .i64) _ 2 ?hg (N := 13) ?hd (xs := ([0, 1, 2, 3, wrap64 (t329 - 6)] : List Int)) (inner := [.int .i64 0, .int .i64 1, .int .i64 2, .int .i64 3, .int .i64 (wrap64 (t329 - 6))]) (ok := fun _ => True) (okp := fun _ => True) ?hr ?hp (fun _ hk => hk) trivial (Below.refl _ _) (Nat.le_refl _) (by simp) ?_; (case hd => rfl); (case hg => rfl); (case hr => first | (go_simp; done) | (go_simp; rfl)); (case hp => exact (Reps.one (show Kd.M (Kd.int .i64) _ _ _ 0 [.int .i64 0] from rfl) (Reps.one (show Kd.M (Kd.int .i64) _ _ _ 1 [.int .i64 1] from rfl) (Reps.one (show Kd.M (Kd.int .i64) _ _ _ 2 [.int .i64 2] from rfl) (Reps.one (show Kd.M (Kd.int .i64) _ _ _ 3 [.int .i64 3] from rfl) (Reps.one (show Kd.M (Kd.int .i64) _ _ _ (wrap64 (t329 - 6)) [.int .i64 (wrap64 (t329 - 6))] from rfl) (Reps.none _ _))))))); intro v333 w9 ho10 hb hg_ hnew_; clear hg_ hnew_; (first | rw [← Ny332.out] at ho10 | (simp only [Int.reduceToNat] at ho10; rw [← Ny332.out] at ho10)); have HO334 := Aside0.mk (Kd.R_lower ho10 (keep_size (w := w) (g := g) (row := none) (kl))); replace BK328 := bb BK328 hb; replace HK := Aside0.mk (KeepBut.trans (kl) (KeepBut.of_below hb g none) (.inl rfl)); replace HB := Aside0.mk (below_step IsS127.b hb); replace HI0 := Aside0.mk (IsS127.below (IsS127.a) hb); clear hb ho10; obtain ⟨Ao11, co11, eo11⟩ := Kd.R_slice HO334.out; subst eo11) | ((with_reducible refine zf 100 rfl ?_); refine g1 (some 14) Try.func100 #[.pointer (some ⟨g, 0, none⟩), .slice Ao11 y332.length co11] ?_; (with_reducible refine (spec_l01Pick.calls g s0_0 t330 t331 _ _ y332 t335 t336 t337 w0 _ ?side1 ?side2 ?side3 ?side4 ?side5 A4.out).mono ?_); (case side1 => exact IsS127.a); (case side2 => exact IsS127.b); (case side3 => repeat (first | exact (Kd.R_reads' HO334.out).2.2 | (with_reducible refine Kd.C_alloc ?_ _) | (with_reducible refine Kd.C_drewN ?_ _) | (with_reducible refine Kd.C_drew ?_))); (case side4 => exact (Kd.R_reads' HO334.out).2.1); (case side5 => exact far_slice (IsS127.own_ne HI0.out HO334.out (by decide))); rintro e w12 ⟨rfl, hi, hb, hk⟩; refine ⟨_, rfl, ?_⟩; replace BK328 := kb hk BK328 NB328_0; replace HO334 := Aside0.mk (Kd.R_mono (Kd.R_keep (IsS127.apart (IsS127.a : IsS127 w0 _ g s0_0 t330 t331) (by (with_reducible repeat (first | apply Kd.R_alloc | apply Kd.R_drewN | apply Kd.R_drew)); exact HO334.out) (by decide)) hk (fun _ h => h.2)) (fun _ h => h.1)); replace HK := Aside0.mk (KeepBut.trans (kl) hk (.inl rfl)); replace HI0 := Aside0.mk (hi); replace HB := Aside0.mk (hb); (try clear hb hk)) | ((with_reducible refine zf 101 rfl ?_); refine g1 (some 16) Try.func101 #[.pointer (some ⟨g, 0, none⟩), .int .i64 6] ?_; (with_reducible refine (spec_l01Next.calls g s0_0 t336 t337 6 t338 t339 t340 w0 _ ?side1 ?side2 A5.out).mono ?_); (case side1 => exact IsS127.a); (case side2 => exact IsS127.b); rintro e w13 ⟨rfl, hi, hb, hk⟩; refine ⟨_, rfl, ?_⟩; replace BK328 := kb hk BK328 NB328_0; replace HO334 := Aside0.mk (Kd.R_mono (Kd.R_keep (IsS127.apart (IsS127.a : IsS127 w0 _ g s0_0 t336 t337) (by (with_reducible repeat (first | apply Kd.R_alloc | apply Kd.R_drewN | apply Kd.R_drew)); exact HO334.out) (by decide)) hk (fun _ h => h.2)) (fun _ h => h.1)); replace HK := Aside0.mk (KeepBut.trans (kl) hk (.inl rfl)); replace HI0 := Aside0.mk (hi); replace HB := Aside0.mk (hb); (try clear hb hk); have hnb14 := NB328_0.out; have hnc14 := NB0_328.out; obtain ⟨hcz15_0, hcz15_1, hcz15_2, hfz15_0, hfz15_1, hfz15_2⟩ := cq3 BK328))
  refine bodyPost_ret (results_cell_row rfl _ _ gb328 27 #[.int .i64 t335, .int .i64 0, .int .i64 0] (0, 0) _ rfl (bp) Try.underlying27 rfl (by kernel_rfl)) rfl ?_
  exact ⟨er, IsS127.a, IsS127.b, kl⟩
 ·obtain ⟨c6b0, c6b1⟩ := zy c6
  replace H := zi H
  obtain ⟨⟨t341, t342, t343⟩, A16, H⟩ := H
  try dsimp only at H
  replace H := zi H
  obtain ⟨⟨t344, t345, t346⟩, A17, H⟩ := H
  try dsimp only at H
  obtain ⟨y347, hy347⟩ : ∃ y_ : List Int, y_ = (([wrap64 (t341 - 10), wrap64 (t344 - 1000000)] : List Int)) := ⟨_, rfl⟩
  replace H : ((spec_l01Pick.f s0_0 t345 t346 y347).bind fun bt350 => ((spec_l01Next.f s0_0 bt350.2.1 bt350.2.2 7).bind fun bt353 => ((spec_l01Pick.f s0_0 bt353.2.1 bt353.2.2 (([0, 0, 1, 2, bt353.1] : List Int))).bind fun bt359 => ((spec_l01Power.f k a1 bt359.1).bind fun t362 => ((spec_l01Of.f k a1 bt350.1 t362 t335).bind fun bt363 => (if bt363.2.2.2 = true then (some (bt363.1, bt363.2.1, bt363.2.2.1, bt359.2.1, bt359.2.2)) else (some (t335, 0, 0, bt359.2.1, bt359.2.2)))))))) = some (r1, r2, r3, r4, r5) := by first | exact hy347 ▸ H | exact H
  have Ny347 := Aside0.mk hy347
  clear hy347
  replace H := zi H
  obtain ⟨⟨t350, t351, t352⟩, A18, H⟩ := H
  try dsimp only at H
  replace H := zi H
  obtain ⟨⟨t353, t354, t355⟩, A19, H⟩ := H
  try dsimp only at H
  obtain ⟨y356, hy356⟩ : ∃ y_ : List Int, y_ = (([0, 0, 1, 2, t353] : List Int)) := ⟨_, rfl⟩
  replace H : ((spec_l01Pick.f s0_0 t354 t355 y356).bind fun bt359 => ((spec_l01Power.f k a1 bt359.1).bind fun t362 => ((spec_l01Of.f k a1 t350 t362 t335).bind fun bt363 => (if bt363.2.2.2 = true then (some (bt363.1, bt363.2.1, bt363.2.2.1, bt359.2.1, bt359.2.2)) else (some (t335, 0, 0, bt359.2.1, bt359.2.2)))))) = some (r1, r2, r3, r4, r5) := by first | exact hy356 ▸ H | exact H
  have Ny356 := Aside0.mk hy356
  clear hy356
  replace H := zi H
  obtain ⟨⟨t359, t360, t361⟩, A20, H⟩ := H
  try dsimp only at H
  replace H := zi H
  obtain ⟨t362, A21, H⟩ := H
  try dsimp only at H
  replace H := zi H
  obtain ⟨⟨t363, t364, t365, t366⟩, A22, H⟩ := H
  try dsimp only at H
  by_cases c23 : t366 = true
  ·subst c23
   rw [if_pos rfl] at H
   simp only [Option.some.injEq, Prod.mk.injEq] at H
   obtain ⟨rfl, rfl, rfl, rfl, rfl⟩ := H
   go_enter Try.func116, Try.ntmps116
   go_wp2_with (first | ((with_reducible refine zg 4 rfl ?_); refine z3 4 27 0 0 0 ?_; intro gb328 hg w24 BK328 hb; have GW328 := Aside0.mk ((by rw [hg]; exact (keep_size (w := w) (g := g) (row := none) (kl)) : w.heap.size ≤ gb328)); have GE328 := Aside0.mk ((Nat.le_trans HW0.out (by rw [hg]; exact (keep_size (w := w) (g := g) (row := none) (kl)) : w.heap.size ≤ gb328) : w0.heap.size ≤ gb328)); have NB0_328 := Aside0.mk ((by rw [hg]; exact Nat.ne_of_lt (IsS127.lt (IsS127.a : IsS127 w0 _ g s0_0 s0_1 s0_2)) : g ≠ gb328)); have NB328_0 := Aside0.mk ((by rw [hg]; exact Nat.ne_of_gt (IsS127.lt (IsS127.a : IsS127 w0 _ g s0_0 s0_1 s0_2)) : gb328 ≠ g)); replace HK := Aside0.mk (KeepBut.trans (kl) (KeepBut.of_below hb g none) (.inl rfl)); replace HB := Aside0.mk (below_step IsS127.b hb); replace HI0 := Aside0.mk (IsS127.below (IsS127.a) hb); clear hb hg) | ((with_reducible refine zf 101 rfl ?_); refine g1 (some 11) Try.func101 #[.pointer (some ⟨g, 0, none⟩), .int .i64 13] ?_; (with_reducible refine (spec_l01Next.calls g s0_0 s0_1 s0_2 13 t329 t330 t331 w0 _ ?side1 ?side2 A3.out).mono ?_); (case side1 => exact IsS127.a); (case side2 => exact IsS127.b); rintro e w25 ⟨rfl, hi, hb, hk⟩; refine ⟨_, rfl, ?_⟩; replace BK328 := kb hk BK328 NB328_0; replace HK := Aside0.mk (KeepBut.trans (kl) hk (.inl rfl)); replace HI0 := Aside0.mk (hi); replace HB := Aside0.mk (hb); (try clear hb hk)) | ((with_reducible refine zg 13 rfl ?_); refine Kd.R_lit (Kd.int .i64) _ 2 ?hg (N := 13) ?hd (xs := ([0, 1, 2, 3, wrap64 (t329 - 6)] : List Int)) (inner := [.int .i64 0, .int .i64 1, .int .i64 2, .int .i64 3, .int .i64 (wrap64 (t329 - 6))]) (ok := fun _ => True) (okp := fun _ => True) ?hr ?hp (fun _ hk => hk) trivial (Below.refl _ _) (Nat.le_refl _) (by simp) ?_; (case hd => rfl); (case hg => rfl); (case hr => first | (go_simp; done) | (go_simp; rfl)); (case hp => exact (Reps.one (show Kd.M (Kd.int .i64) _ _ _ 0 [.int .i64 0] from rfl) (Reps.one (show Kd.M (Kd.int .i64) _ _ _ 1 [.int .i64 1] from rfl) (Reps.one (show Kd.M (Kd.int .i64) _ _ _ 2 [.int .i64 2] from rfl) (Reps.one (show Kd.M (Kd.int .i64) _ _ _ 3 [.int .i64 3] from rfl) (Reps.one (show Kd.M (Kd.int .i64) _ _ _ (wrap64 (t329 - 6)) [.int .i64 (wrap64 (t329 - 6))] from rfl) (Reps.none _ _))))))); intro v333 w26 ho27 hb hg_ hnew_; clear hg_ hnew_; (first | rw [← Ny332.out] at ho27 | (simp only [Int.reduceToNat] at ho27; rw [← Ny332.out] at ho27)); have HO334 := Aside0.mk (Kd.R_lower ho27 (keep_size (w := w) (g := g) (row := none) (kl))); replace BK328 := bb BK328 hb; replace HK := Aside0.mk (KeepBut.trans (kl) (KeepBut.of_below hb g none) (.inl rfl)); replace HB := Aside0.mk (below_step IsS127.b hb); replace HI0 := Aside0.mk (IsS127.below (IsS127.a) hb); clear hb ho27; obtain ⟨Ao28, co28, eo28⟩ := Kd.R_slice HO334.out; subst eo28) | ((with_reducible refine zf 100 rfl ?_); refine g1 (some 14) Try.func100 #[.pointer (some ⟨g, 0, none⟩), .slice Ao28 y332.length co28] ?_; (with_reducible refine (spec_l01Pick.calls g s0_0 t330 t331 _ _ y332 t335 t336 t337 w0 _ ?side1 ?side2 ?side3 ?side4 ?side5 A4.out).mono ?_); (case side1 => exact IsS127.a); (case side2 => exact IsS127.b); (case side3 => repeat (first | exact (Kd.R_reads' HO334.out).2.2 | (with_reducible refine Kd.C_alloc ?_ _) | (with_reducible refine Kd.C_drewN ?_ _) | (with_reducible refine Kd.C_drew ?_))); (case side4 => exact (Kd.R_reads' HO334.out).2.1); (case side5 => exact far_slice (IsS127.own_ne HI0.out HO334.out (by decide))); rintro e w29 ⟨rfl, hi, hb, hk⟩; refine ⟨_, rfl, ?_⟩; replace BK328 := kb hk BK328 NB328_0; replace HO334 := Aside0.mk (Kd.R_mono (Kd.R_keep (IsS127.apart (IsS127.a : IsS127 w0 _ g s0_0 t330 t331) (by (with_reducible repeat (first | apply Kd.R_alloc | apply Kd.R_drewN | apply Kd.R_drew)); exact HO334.out) (by decide)) hk (fun _ h => h.2)) (fun _ h => h.1)); replace HK := Aside0.mk (KeepBut.trans (kl) hk (.inl rfl)); replace HI0 := Aside0.mk (hi); replace HB := Aside0.mk (hb); (try clear hb hk)) | ((with_reducible refine zf 101 rfl ?_); refine g1 (some 16) Try.func101 #[.pointer (some ⟨g, 0, none⟩), .int .i64 6] ?_; (with_reducible refine (spec_l01Next.calls g s0_0 t336 t337 6 t338 t339 t340 w0 _ ?side1 ?side2 A5.out).mono ?_); (case side1 => exact IsS127.a); (case side2 => exact IsS127.b); rintro e w30 ⟨rfl, hi, hb, hk⟩; refine ⟨_, rfl, ?_⟩; replace BK328 := kb hk BK328 NB328_0; replace HO334 := Aside0.mk (Kd.R_mono (Kd.R_keep (IsS127.apart (IsS127.a : IsS127 w0 _ g s0_0 t336 t337) (by (with_reducible repeat (first | apply Kd.R_alloc | apply Kd.R_drewN | apply Kd.R_drew)); exact HO334.out) (by decide)) hk (fun _ h => h.2)) (fun _ h => h.1)); replace HK := Aside0.mk (KeepBut.trans (kl) hk (.inl rfl)); replace HI0 := Aside0.mk (hi); replace HB := Aside0.mk (hb); (try clear hb hk)) | ((with_reducible refine zf 101 rfl ?_); refine g1 (some 22) Try.func101 #[.pointer (some ⟨g, 0, none⟩), .int .i64 20] ?_; (with_reducible refine (spec_l01Next.calls g s0_0 t339 t340 20 t341 t342 t343 w0 _ ?side1 ?side2 A16.out).mono ?_); (case side1 => exact IsS127.a); (case side2 => exact IsS127.b); rintro e w31 ⟨rfl, hi, hb, hk⟩; refine ⟨_, rfl, ?_⟩; replace BK328 := kb hk BK328 NB328_0; replace HO334 := Aside0.mk (Kd.R_mono (Kd.R_keep (IsS127.apart (IsS127.a : IsS127 w0 _ g s0_0 t339 t340) (by (with_reducible repeat (first | apply Kd.R_alloc | apply Kd.R_drewN | apply Kd.R_drew)); exact HO334.out) (by decide)) hk (fun _ h => h.2)) (fun _ h => h.1)); replace HK := Aside0.mk (KeepBut.trans (kl) hk (.inl rfl)); replace HI0 := Aside0.mk (hi); replace HB := Aside0.mk (hb); (try clear hb hk)) | ((with_reducible refine zf 101 rfl ?_); refine g1 (some 25) Try.func101 #[.pointer (some ⟨g, 0, none⟩), .int .i64 2000000] ?_; (with_reducible refine (spec_l01Next.calls g s0_0 t342 t343 2000000 t344 t345 t346 w0 _ ?side1 ?side2 A17.out).mono ?_); (case side1 => exact IsS127.a); (case side2 => exact IsS127.b); rintro e w32 ⟨rfl, hi, hb, hk⟩; refine ⟨_, rfl, ?_⟩; replace BK328 := kb hk BK328 NB328_0; replace HO334 := Aside0.mk (Kd.R_mono (Kd.R_keep (IsS127.apart (IsS127.a : IsS127 w0 _ g s0_0 t342 t343) (by (with_reducible repeat (first | apply Kd.R_alloc | apply Kd.R_drewN | apply Kd.R_drew)); exact HO334.out) (by decide)) hk (fun _ h => h.2)) (fun _ h => h.1)); replace HK := Aside0.mk (KeepBut.trans (kl) hk (.inl rfl)); replace HI0 := Aside0.mk (hi); replace HB := Aside0.mk (hb); (try clear hb hk)) | ((with_reducible refine zg 27 rfl ?_); refine Kd.R_lit (Kd.int .i64) _ 2 ?hg (N := 27) ?hd (xs := ([wrap64 (t341 - 10), wrap64 (t344 - 1000000)] : List Int)) (inner := [.int .i64 (wrap64 (t341 - 10)), .int .i64 (wrap64 (t344 - 1000000))]) (ok := fun _ => True) (okp := fun _ => True) ?hr ?hp (fun _ hk => hk) trivial (Below.refl _ _) (Nat.le_refl _) (by simp) ?_; (case hd => rfl); (case hg => rfl); (case hr => first | (go_simp; done) | (go_simp; rfl)); (case hp => exact (Reps.one (show Kd.M (Kd.int .i64) _ _ _ (wrap64 (t341 - 10)) [.int .i64 (wrap64 (t341 - 10))] from rfl) (Reps.one (show Kd.M (Kd.int .i64) _ _ _ (wrap64 (t344 - 1000000)) [.int .i64 (wrap64 (t344 - 1000000))] from rfl) (Reps.none _ _)))); intro v348 w33 ho34 hb hg_ hnew_; clear hg_ hnew_; (first | rw [← Ny347.out] at ho34 | (simp only [Int.reduceToNat] at ho34; rw [← Ny347.out] at ho34)); have HO349 := Aside0.mk (Kd.R_lower (Kd.R_new' ho34 (Kd.R_lt (by (with_reducible repeat (first | apply Kd.R_alloc | apply Kd.R_drewN | apply Kd.R_drew)); exact HO334.out))) (keep_size (w := w) (g := g) (row := none) (kl))); replace HO334 := Aside0.mk (Kd.R_elder' (by (with_reducible repeat (first | apply Kd.R_alloc | apply Kd.R_drewN | apply Kd.R_drew)); exact HO334.out) (Kd.R_base ho34) hb); replace BK328 := bb BK328 hb; replace HK := Aside0.mk (KeepBut.trans (kl) (KeepBut.of_below hb g none) (.inl rfl)); replace HB := Aside0.mk (below_step IsS127.b hb); replace HI0 := Aside0.mk (IsS127.below (IsS127.a) hb); clear hb ho34; obtain ⟨Ao35, co35, eo35⟩ := Kd.R_slice HO349.out; subst eo35) | ((with_reducible refine zf 100 rfl ?_); refine g1 (some 28) Try.func100 #[.pointer (some ⟨g, 0, none⟩), .slice Ao35 y347.length co35] ?_; (with_reducible refine (spec_l01Pick.calls g s0_0 t345 t346 _ _ y347 t350 t351 t352 w0 _ ?side1 ?side2 ?side3 ?side4 ?side5 A18.out).mono ?_); (case side1 => exact IsS127.a); (case side2 => exact IsS127.b); (case side3 => repeat (first | exact (Kd.R_reads' HO349.out).2.2 | (with_reducible refine Kd.C_alloc ?_ _) | (with_reducible refine Kd.C_drewN ?_ _) | (with_reducible refine Kd.C_drew ?_))); (case side4 => exact (Kd.R_reads' HO349.out).2.1); (case side5 => exact far_slice (IsS127.own_ne HI0.out HO349.out (by decide))); rintro e w36 ⟨rfl, hi, hb, hk⟩; refine ⟨_, rfl, ?_⟩; replace BK328 := kb hk BK328 NB328_0; replace HO334 := Aside0.mk (Kd.R_mono (Kd.R_keep (IsS127.apart (IsS127.a : IsS127 w0 _ g s0_0 t345 t346) (by (with_reducible repeat (first | apply Kd.R_alloc | apply Kd.R_drewN | apply Kd.R_drew)); exact HO334.out) (by decide)) hk (fun _ h => h.2)) (fun _ h => h.1)); replace HO349 := Aside0.mk (Kd.R_mono (Kd.R_keep (IsS127.apart (IsS127.a : IsS127 w0 _ g s0_0 t345 t346) (by (with_reducible repeat (first | apply Kd.R_alloc | apply Kd.R_drewN | apply Kd.R_drew)); exact HO349.out) (by decide)) hk (fun _ h => h.2)) (fun _ h => h.1)); replace HK := Aside0.mk (KeepBut.trans (kl) hk (.inl rfl)); replace HI0 := Aside0.mk (hi); replace HB := Aside0.mk (hb); (try clear hb hk)) | ((with_reducible refine zf 101 rfl ?_); refine g1 (some 35) Try.func101 #[.pointer (some ⟨g, 0, none⟩), .int .i64 7] ?_; (with_reducible refine (spec_l01Next.calls g s0_0 t351 t352 7 t353 t354 t355 w0 _ ?side1 ?side2 A19.out).mono ?_); (case side1 => exact IsS127.a); (case side2 => exact IsS127.b); rintro e w37 ⟨rfl, hi, hb, hk⟩; refine ⟨_, rfl, ?_⟩; replace BK328 := kb hk BK328 NB328_0; replace HO334 := Aside0.mk (Kd.R_mono (Kd.R_keep (IsS127.apart (IsS127.a : IsS127 w0 _ g s0_0 t351 t352) (by (with_reducible repeat (first | apply Kd.R_alloc | apply Kd.R_drewN | apply Kd.R_drew)); exact HO334.out) (by decide)) hk (fun _ h => h.2)) (fun _ h => h.1)); replace HO349 := Aside0.mk (Kd.R_mono (Kd.R_keep (IsS127.apart (IsS127.a : IsS127 w0 _ g s0_0 t351 t352) (by (with_reducible repeat (first | apply Kd.R_alloc | apply Kd.R_drewN | apply Kd.R_drew)); exact HO349.out) (by decide)) hk (fun _ h => h.2)) (fun _ h => h.1)); replace HK := Aside0.mk (KeepBut.trans (kl) hk (.inl rfl)); replace HI0 := Aside0.mk (hi); replace HB := Aside0.mk (hb); (try clear hb hk)) | ((with_reducible refine zg 36 rfl ?_); refine Kd.R_lit (Kd.int .i64) _ 2 ?hg (N := 36) ?hd (xs := ([0, 0, 1, 2, t353] : List Int)) (inner := [.int .i64 0, .int .i64 0, .int .i64 1, .int .i64 2, .int .i64 t353]) (ok := fun _ => True) (okp := fun _ => True) ?hr ?hp (fun _ hk => hk) trivial (Below.refl _ _) (Nat.le_refl _) (by simp) ?_; (case hd => rfl); (case hg => rfl); (case hr => first | (go_simp; done) | (go_simp; rfl)); (case hp => exact (Reps.one (show Kd.M (Kd.int .i64) _ _ _ 0 [.int .i64 0] from rfl) (Reps.one (show Kd.M (Kd.int .i64) _ _ _ 0 [.int .i64 0] from rfl) (Reps.one (show Kd.M (Kd.int .i64) _ _ _ 1 [.int .i64 1] from rfl) (Reps.one (show Kd.M (Kd.int .i64) _ _ _ 2 [.int .i64 2] from rfl) (Reps.one (show Kd.M (Kd.int .i64) _ _ _ t353 [.int .i64 t353] from rfl) (Reps.none _ _))))))); intro v357 w38 ho39 hb hg_ hnew_; clear hg_ hnew_; (first | rw [← Ny356.out] at ho39 | (simp only [Int.reduceToNat] at ho39; rw [← Ny356.out] at ho39)); have HO358 := Aside0.mk (Kd.R_lower (Kd.R_new' (Kd.R_new' ho39 (Kd.R_lt (by (with_reducible repeat (first | apply Kd.R_alloc | apply Kd.R_drewN | apply Kd.R_drew)); exact HO334.out))) (Kd.R_lt (by (with_reducible repeat (first | apply Kd.R_alloc | apply Kd.R_drewN | apply Kd.R_drew)); exact HO349.out))) (keep_size (w := w) (g := g) (row := none) (kl))); replace HO334 := Aside0.mk (Kd.R_elder' (by (with_reducible repeat (first | apply Kd.R_alloc | apply Kd.R_drewN | apply Kd.R_drew)); exact HO334.out) (Kd.R_base ho39) hb); replace HO349 := Aside0.mk (Kd.R_elder' (by (with_reducible repeat (first | apply Kd.R_alloc | apply Kd.R_drewN | apply Kd.R_drew)); exact HO349.out) (Kd.R_base ho39) hb); replace BK328 := bb BK328 hb; replace HK := Aside0.mk (KeepBut.trans (kl) (KeepBut.of_below hb g none) (.inl rfl)); replace HB := Aside0.mk (below_step IsS127.b hb); replace HI0 := Aside0.mk (IsS127.below (IsS127.a) hb); clear hb ho39; obtain ⟨Ao40, co40, eo40⟩ := Kd.R_slice HO358.out; subst eo40) | ((with_reducible refine zf 100 rfl ?_); refine g1 (some 37) Try.func100 #[.pointer (some ⟨g, 0, none⟩), .slice Ao40 y356.length co40] ?_; (with_reducible refine (spec_l01Pick.calls g s0_0 t354 t355 _ _ y356 t359 t360 t361 w0 _ ?side1 ?side2 ?side3 ?side4 ?side5 A20.out).mono ?_); (case side1 => exact IsS127.a); (case side2 => exact IsS127.b); (case side3 => repeat (first | exact (Kd.R_reads' HO358.out).2.2 | (with_reducible refine Kd.C_alloc ?_ _) | (with_reducible refine Kd.C_drewN ?_ _) | (with_reducible refine Kd.C_drew ?_))); (case side4 => exact (Kd.R_reads' HO358.out).2.1); (case side5 => exact far_slice (IsS127.own_ne HI0.out HO358.out (by decide))); rintro e w41 ⟨rfl, hi, hb, hk⟩; refine ⟨_, rfl, ?_⟩; replace BK328 := kb hk BK328 NB328_0; replace HO334 := Aside0.mk (Kd.R_mono (Kd.R_keep (IsS127.apart (IsS127.a : IsS127 w0 _ g s0_0 t354 t355) (by (with_reducible repeat (first | apply Kd.R_alloc | apply Kd.R_drewN | apply Kd.R_drew)); exact HO334.out) (by decide)) hk (fun _ h => h.2)) (fun _ h => h.1)); replace HO349 := Aside0.mk (Kd.R_mono (Kd.R_keep (IsS127.apart (IsS127.a : IsS127 w0 _ g s0_0 t354 t355) (by (with_reducible repeat (first | apply Kd.R_alloc | apply Kd.R_drewN | apply Kd.R_drew)); exact HO349.out) (by decide)) hk (fun _ h => h.2)) (fun _ h => h.1)); replace HO358 := Aside0.mk (Kd.R_mono (Kd.R_keep (IsS127.apart (IsS127.a : IsS127 w0 _ g s0_0 t354 t355) (by (with_reducible repeat (first | apply Kd.R_alloc | apply Kd.R_drewN | apply Kd.R_drew)); exact HO358.out) (by decide)) hk (fun _ h => h.2)) (fun _ h => h.1)); replace HK := Aside0.mk (KeepBut.trans (kl) hk (.inl rfl)); replace HI0 := Aside0.mk (hi); replace HB := Aside0.mk (hb); (try clear hb hk)) | ((with_reducible refine zf 96 rfl ?_); refine g1 (some 38) Try.func96 #[.int .i64 a1, .int .i64 t359] ?_; (with_reducible refine (spec_l01Power.calls k a1 t359 t362 _ A21.out).mono ?_); rintro e w' ⟨rfl, ⟨nd, rfl⟩⟩; refine ⟨_, rfl, ?_⟩; (try (rw [drewN_self w41]; generalize hq_ : World.drewN w41 _ = w41; have n0_ : Aside0 (Kd.R (Kd.int .i64) 2 w41 w.heap.size (fun k_ => some k_ ≠ (.slice Ao35 y347.length co35 : Value).ownBlock ∧ some k_ ≠ (.slice Ao40 y356.length co40 : Value).ownBlock) (.slice Ao28 y332.length co28) y332) := ⟨by rw [← hq_]; exact (by (with_reducible repeat (first | apply Kd.R_alloc | apply Kd.R_drewN | apply Kd.R_drew)); exact Kd.R_mono HO334.out (fun _ hk => ⟨hk.1.2, hk.2⟩))⟩; have n1_ : Aside0 (Kd.R (Kd.int .i64) 2 w41 w.heap.size (fun k_ => some k_ ≠ (.slice Ao28 y332.length co28 : Value).ownBlock ∧ some k_ ≠ (.slice Ao40 y356.length co40 : Value).ownBlock) (.slice Ao35 y347.length co35) y347) := ⟨by rw [← hq_]; exact (by (with_reducible repeat (first | apply Kd.R_alloc | apply Kd.R_drewN | apply Kd.R_drew)); exact Kd.R_mono HO349.out (fun _ hk => ⟨hk.1.2, hk.2⟩))⟩; have n2_ : Aside0 (Kd.R (Kd.int .i64) 2 w41 w.heap.size (fun k_ => some k_ ≠ (.slice Ao28 y332.length co28 : Value).ownBlock ∧ some k_ ≠ (.slice Ao35 y347.length co35 : Value).ownBlock) (.slice Ao40 y356.length co40) y356) := ⟨by rw [← hq_]; exact (by (with_reducible repeat (first | apply Kd.R_alloc | apply Kd.R_drewN | apply Kd.R_drew)); exact Kd.R_mono HO358.out (fun _ hk => ⟨hk.1.2, hk.2⟩))⟩; have n3_ : Aside0 (w41.heap[gb328]? = some (.cells #[.int .i64 0, .int .i64 0, .int .i64 0] 27 (0, 0))) := ⟨by rw [← hq_]; exact (be BK328)⟩; have n4_ : Aside0 (IsS127 w0 w41 g s0_0 t360 t361) := ⟨by rw [← hq_]; exact (IsS127.a)⟩; have n5_ : Aside0 (KeepBut w w41 g none) := ⟨by rw [← hq_]; exact (kl)⟩; have n6_ : Aside0 (Below w0.heap.size w0 w41) := ⟨by rw [← hq_]; exact (IsS127.b)⟩; clear HO334 HO349 HO358 BK328 HI0 HK HB hq_; have HO334 := n0_; have HO349 := n1_; have HO358 := n2_; have BK328 := n3_; have HI0 := n4_; have HK := n5_; have HB := n6_; clear n0_ n1_ n2_ n3_ n4_ n5_ n6_))) | ((with_reducible refine zf 97 rfl ?_); refine g1 (some 40) Try.func97 #[.int .i64 a1, .int .i64 t350, .int .i64 t362, .int .i64 t335] ?_; (with_reducible refine (spec_l01Of.calls k a1 t350 t362 t335 t363 t364 t365 true _ A22.out).mono ?_); rintro e w42 ⟨rfl, hb⟩; refine ⟨_, rfl, ?_⟩; replace HO334 := Aside0.mk (Kd.R_below (by (with_reducible repeat (first | apply Kd.R_alloc | apply Kd.R_drewN | apply Kd.R_drew)); exact HO334.out) hb); replace HO349 := Aside0.mk (Kd.R_below (by (with_reducible repeat (first | apply Kd.R_alloc | apply Kd.R_drewN | apply Kd.R_drew)); exact HO349.out) hb); replace HO358 := Aside0.mk (Kd.R_below (by (with_reducible repeat (first | apply Kd.R_alloc | apply Kd.R_drewN | apply Kd.R_drew)); exact HO358.out) hb); replace BK328 := bb BK328 hb; replace HK := Aside0.mk (KeepBut.trans (kl) (KeepBut.of_below hb g none) (.inl rfl)); replace HB := Aside0.mk (below_step IsS127.b hb); replace HI0 := Aside0.mk (IsS127.below (IsS127.a) hb); (try clear hb)) | ((with_reducible refine zg 7 rfl ?_); refine z3 7 27 0 0 0 ?_; intro gb367 hg w43 BK367 hb; have GW367 := Aside0.mk ((by rw [hg]; exact (keep_size (w := w) (g := g) (row := none) (kl)) : w.heap.size ≤ gb367)); have GE367 := Aside0.mk ((Nat.le_trans HW0.out (by rw [hg]; exact (keep_size (w := w) (g := g) (row := none) (kl)) : w.heap.size ≤ gb367) : w0.heap.size ≤ gb367)); have NB328_367 := nl hg BK328; have NB0_367 := Aside0.mk ((by rw [hg]; exact Nat.ne_of_lt (IsS127.lt (IsS127.a : IsS127 w0 _ g s0_0 t360 t361)) : g ≠ gb367)); have NB367_0 := Aside0.mk ((by rw [hg]; exact Nat.ne_of_gt (IsS127.lt (IsS127.a : IsS127 w0 _ g s0_0 t360 t361)) : gb367 ≠ g)); replace HO334 := Aside0.mk (Kd.R_below (by (with_reducible repeat (first | apply Kd.R_alloc | apply Kd.R_drewN | apply Kd.R_drew)); exact HO334.out) hb); replace HO349 := Aside0.mk (Kd.R_below (by (with_reducible repeat (first | apply Kd.R_alloc | apply Kd.R_drewN | apply Kd.R_drew)); exact HO349.out) hb); replace HO358 := Aside0.mk (Kd.R_below (by (with_reducible repeat (first | apply Kd.R_alloc | apply Kd.R_drewN | apply Kd.R_drew)); exact HO358.out) hb); replace BK328 := bb BK328 hb; replace HK := Aside0.mk (KeepBut.trans (kl) (KeepBut.of_below hb g none) (.inl rfl)); replace HB := Aside0.mk (below_step IsS127.b hb); replace HI0 := Aside0.mk (IsS127.below (IsS127.a) hb); clear hb hg; obtain ⟨hnb44, hnc44⟩ := zm NB328_367; have hnb45 := NB367_0.out; have hnc45 := NB0_367.out; obtain ⟨hcz46_0, hcz46_1, hcz46_2, hfz46_0, hfz46_1, hfz46_2⟩ := cq3 BK367; have hnb47 := NB328_0.out; have hnc47 := NB0_328.out; obtain ⟨hcz48_0, hcz48_1, hcz48_2, hfz48_0, hfz48_1, hfz48_2⟩ := cq3 BK328))
   refine bodyPost_ret (results_cell_row rfl _ _ gb328 27 #[.int .i64 t363, .int .i64 t364, .int .i64 t365] (0, 0) _ rfl (bp) Try.underlying27 rfl (by kernel_rfl)) rfl ?_
   exact ⟨er, IsS127.a, IsS127.b, kl⟩
  ·replace c23 := Bool.eq_false_iff.mpr c23
   subst c23
   have H1 : (some (t335, 0, 0, t360, t361)) = some (r1, r2, r3, r4, r5) := by rw [if_neg (show ¬ (false = true) by decide)] at H; exact H
   clear H
   have H := H1
   clear H1
   simp only [Option.some.injEq, Prod.mk.injEq] at H
   obtain ⟨rfl, rfl, rfl, rfl, rfl⟩ := H
   go_enter Try.func116, Try.ntmps116
   go_wp2_with (first | ((with_reducible refine zg 4 rfl ?_); refine z3 4 27 0 0 0 ?_; intro gb328 hg w49 BK328 hb; have GW328 := Aside0.mk ((by rw [hg]; exact (keep_size (w := w) (g := g) (row := none) (kl)) : w.heap.size ≤ gb328)); have GE328 := Aside0.mk ((Nat.le_trans HW0.out (by rw [hg]; exact (keep_size (w := w) (g := g) (row := none) (kl)) : w.heap.size ≤ gb328) : w0.heap.size ≤ gb328)); have NB0_328 := Aside0.mk ((by rw [hg]; exact Nat.ne_of_lt (IsS127.lt (IsS127.a : IsS127 w0 _ g s0_0 s0_1 s0_2)) : g ≠ gb328)); have NB328_0 := Aside0.mk ((by rw [hg]; exact Nat.ne_of_gt (IsS127.lt (IsS127.a : IsS127 w0 _ g s0_0 s0_1 s0_2)) : gb328 ≠ g)); replace HK := Aside0.mk (KeepBut.trans (kl) (KeepBut.of_below hb g none) (.inl rfl)); replace HB := Aside0.mk (below_step IsS127.b hb); replace HI0 := Aside0.mk (IsS127.below (IsS127.a) hb); clear hb hg) | ((with_reducible refine zf 101 rfl ?_); refine g1 (some 11) Try.func101 #[.pointer (some ⟨g, 0, none⟩), .int .i64 13] ?_; (with_reducible refine (spec_l01Next.calls g s0_0 s0_1 s0_2 13 t329 t330 t331 w0 _ ?side1 ?side2 A3.out).mono ?_); (case side1 => exact IsS127.a); (case side2 => exact IsS127.b); rintro e w50 ⟨rfl, hi, hb, hk⟩; refine ⟨_, rfl, ?_⟩; replace BK328 := kb hk BK328 NB328_0; replace HK := Aside0.mk (KeepBut.trans (kl) hk (.inl rfl)); replace HI0 := Aside0.mk (hi); replace HB := Aside0.mk (hb); (try clear hb hk)) | ((with_reducible refine zg 13 rfl ?_); refine Kd.R_lit (Kd.int .i64) _ 2 ?hg (N := 13) ?hd (xs := ([0, 1, 2, 3, wrap64 (t329 - 6)] : List Int)) (inner := [.int .i64 0, .int .i64 1, .int .i64 2, .int .i64 3, .int .i64 (wrap64 (t329 - 6))]) (ok := fun _ => True) (okp := fun _ => True) ?hr ?hp (fun _ hk => hk) trivial (Below.refl _ _) (Nat.le_refl _) (by simp) ?_; (case hd => rfl); (case hg => rfl); (case hr => first | (go_simp; done) | (go_simp; rfl)); (case hp => exact (Reps.one (show Kd.M (Kd.int .i64) _ _ _ 0 [.int .i64 0] from rfl) (Reps.one (show Kd.M (Kd.int .i64) _ _ _ 1 [.int .i64 1] from rfl) (Reps.one (show Kd.M (Kd.int .i64) _ _ _ 2 [.int .i64 2] from rfl) (Reps.one (show Kd.M (Kd.int .i64) _ _ _ 3 [.int .i64 3] from rfl) (Reps.one (show Kd.M (Kd.int .i64) _ _ _ (wrap64 (t329 - 6)) [.int .i64 (wrap64 (t329 - 6))] from rfl) (Reps.none _ _))))))); intro v333 w51 ho52 hb hg_ hnew_; clear hg_ hnew_; (first | rw [← Ny332.out] at ho52 | (simp only [Int.reduceToNat] at ho52; rw [← Ny332.out] at ho52)); have HO334 := Aside0.mk (Kd.R_lower ho52 (keep_size (w := w) (g := g) (row := none) (kl))); replace BK328 := bb BK328 hb; replace HK := Aside0.mk (KeepBut.trans (kl) (KeepBut.of_below hb g none) (.inl rfl)); replace HB := Aside0.mk (below_step IsS127.b hb); replace HI0 := Aside0.mk (IsS127.below (IsS127.a) hb); clear hb ho52; obtain ⟨Ao53, co53, eo53⟩ := Kd.R_slice HO334.out; subst eo53) | ((with_reducible refine zf 100 rfl ?_); refine g1 (some 14) Try.func100 #[.pointer (some ⟨g, 0, none⟩), .slice Ao53 y332.length co53] ?_; (with_reducible refine (spec_l01Pick.calls g s0_0 t330 t331 _ _ y332 t335 t336 t337 w0 _ ?side1 ?side2 ?side3 ?side4 ?side5 A4.out).mono ?_); (case side1 => exact IsS127.a); (case side2 => exact IsS127.b); (case side3 => repeat (first | exact (Kd.R_reads' HO334.out).2.2 | (with_reducible refine Kd.C_alloc ?_ _) | (with_reducible refine Kd.C_drewN ?_ _) | (with_reducible refine Kd.C_drew ?_))); (case side4 => exact (Kd.R_reads' HO334.out).2.1); (case side5 => exact far_slice (IsS127.own_ne HI0.out HO334.out (by decide))); rintro e w54 ⟨rfl, hi, hb, hk⟩; refine ⟨_, rfl, ?_⟩; replace BK328 := kb hk BK328 NB328_0; replace HO334 := Aside0.mk (Kd.R_mono (Kd.R_keep (IsS127.apart (IsS127.a : IsS127 w0 _ g s0_0 t330 t331) (by (with_reducible repeat (first | apply Kd.R_alloc | apply Kd.R_drewN | apply Kd.R_drew)); exact HO334.out) (by decide)) hk (fun _ h => h.2)) (fun _ h => h.1)); replace HK := Aside0.mk (KeepBut.trans (kl) hk (.inl rfl)); replace HI0 := Aside0.mk (hi); replace HB := Aside0.mk (hb); (try clear hb hk)) | ((with_reducible refine zf 101 rfl ?_); refine g1 (some 16) Try.func101 #[.pointer (some ⟨g, 0, none⟩), .int .i64 6] ?_; (with_reducible refine (spec_l01Next.calls g s0_0 t336 t337 6 t338 t339 t340 w0 _ ?side1 ?side2 A5.out).mono ?_); (case side1 => exact IsS127.a); (case side2 => exact IsS127.b); rintro e w55 ⟨rfl, hi, hb, hk⟩; refine ⟨_, rfl, ?_⟩; replace BK328 := kb hk BK328 NB328_0; replace HO334 := Aside0.mk (Kd.R_mono (Kd.R_keep (IsS127.apart (IsS127.a : IsS127 w0 _ g s0_0 t336 t337) (by (with_reducible repeat (first | apply Kd.R_alloc | apply Kd.R_drewN | apply Kd.R_drew)); exact HO334.out) (by decide)) hk (fun _ h => h.2)) (fun _ h => h.1)); replace HK := Aside0.mk (KeepBut.trans (kl) hk (.inl rfl)); replace HI0 := Aside0.mk (hi); replace HB := Aside0.mk (hb); (try clear hb hk)) | ((with_reducible refine zf 101 rfl ?_); refine g1 (some 22) Try.func101 #[.pointer (some ⟨g, 0, none⟩), .int .i64 20] ?_; (with_reducible refine (spec_l01Next.calls g s0_0 t339 t340 20 t341 t342 t343 w0 _ ?side1 ?side2 A16.out).mono ?_); (case side1 => exact IsS127.a); (case side2 => exact IsS127.b); rintro e w56 ⟨rfl, hi, hb, hk⟩; refine ⟨_, rfl, ?_⟩; replace BK328 := kb hk BK328 NB328_0; replace HO334 := Aside0.mk (Kd.R_mono (Kd.R_keep (IsS127.apart (IsS127.a : IsS127 w0 _ g s0_0 t339 t340) (by (with_reducible repeat (first | apply Kd.R_alloc | apply Kd.R_drewN | apply Kd.R_drew)); exact HO334.out) (by decide)) hk (fun _ h => h.2)) (fun _ h => h.1)); replace HK := Aside0.mk (KeepBut.trans (kl) hk (.inl rfl)); replace HI0 := Aside0.mk (hi); replace HB := Aside0.mk (hb); (try clear hb hk)) | ((with_reducible refine zf 101 rfl ?_); refine g1 (some 25) Try.func101 #[.pointer (some ⟨g, 0, none⟩), .int .i64 2000000] ?_; (with_reducible refine (spec_l01Next.calls g s0_0 t342 t343 2000000 t344 t345 t346 w0 _ ?side1 ?side2 A17.out).mono ?_); (case side1 => exact IsS127.a); (case side2 => exact IsS127.b); rintro e w57 ⟨rfl, hi, hb, hk⟩; refine ⟨_, rfl, ?_⟩; replace BK328 := kb hk BK328 NB328_0; replace HO334 := Aside0.mk (Kd.R_mono (Kd.R_keep (IsS127.apart (IsS127.a : IsS127 w0 _ g s0_0 t342 t343) (by (with_reducible repeat (first | apply Kd.R_alloc | apply Kd.R_drewN | apply Kd.R_drew)); exact HO334.out) (by decide)) hk (fun _ h => h.2)) (fun _ h => h.1)); replace HK := Aside0.mk (KeepBut.trans (kl) hk (.inl rfl)); replace HI0 := Aside0.mk (hi); replace HB := Aside0.mk (hb); (try clear hb hk)) | ((with_reducible refine zg 27 rfl ?_); refine Kd.R_lit (Kd.int .i64) _ 2 ?hg (N := 27) ?hd (xs := ([wrap64 (t341 - 10), wrap64 (t344 - 1000000)] : List Int)) (inner := [.int .i64 (wrap64 (t341 - 10)), .int .i64 (wrap64 (t344 - 1000000))]) (ok := fun _ => True) (okp := fun _ => True) ?hr ?hp (fun _ hk => hk) trivial (Below.refl _ _) (Nat.le_refl _) (by simp) ?_; (case hd => rfl); (case hg => rfl); (case hr => first | (go_simp; done) | (go_simp; rfl)); (case hp => exact (Reps.one (show Kd.M (Kd.int .i64) _ _ _ (wrap64 (t341 - 10)) [.int .i64 (wrap64 (t341 - 10))] from rfl) (Reps.one (show Kd.M (Kd.int .i64) _ _ _ (wrap64 (t344 - 1000000)) [.int .i64 (wrap64 (t344 - 1000000))] from rfl) (Reps.none _ _)))); intro v348 w58 ho59 hb hg_ hnew_; clear hg_ hnew_; (first | rw [← Ny347.out] at ho59 | (simp only [Int.reduceToNat] at ho59; rw [← Ny347.out] at ho59)); have HO349 := Aside0.mk (Kd.R_lower (Kd.R_new' ho59 (Kd.R_lt (by (with_reducible repeat (first | apply Kd.R_alloc | apply Kd.R_drewN | apply Kd.R_drew)); exact HO334.out))) (keep_size (w := w) (g := g) (row := none) (kl))); replace HO334 := Aside0.mk (Kd.R_elder' (by (with_reducible repeat (first | apply Kd.R_alloc | apply Kd.R_drewN | apply Kd.R_drew)); exact HO334.out) (Kd.R_base ho59) hb); replace BK328 := bb BK328 hb; replace HK := Aside0.mk (KeepBut.trans (kl) (KeepBut.of_below hb g none) (.inl rfl)); replace HB := Aside0.mk (below_step IsS127.b hb); replace HI0 := Aside0.mk (IsS127.below (IsS127.a) hb); clear hb ho59; obtain ⟨Ao60, co60, eo60⟩ := Kd.R_slice HO349.out; subst eo60) | ((with_reducible refine zf 100 rfl ?_); refine g1 (some 28) Try.func100 #[.pointer (some ⟨g, 0, none⟩), .slice Ao60 y347.length co60] ?_; (with_reducible refine (spec_l01Pick.calls g s0_0 t345 t346 _ _ y347 t350 t351 t352 w0 _ ?side1 ?side2 ?side3 ?side4 ?side5 A18.out).mono ?_); (case side1 => exact IsS127.a); (case side2 => exact IsS127.b); (case side3 => repeat (first | exact (Kd.R_reads' HO349.out).2.2 | (with_reducible refine Kd.C_alloc ?_ _) | (with_reducible refine Kd.C_drewN ?_ _) | (with_reducible refine Kd.C_drew ?_))); (case side4 => exact (Kd.R_reads' HO349.out).2.1); (case side5 => exact far_slice (IsS127.own_ne HI0.out HO349.out (by decide))); rintro e w61 ⟨rfl, hi, hb, hk⟩; refine ⟨_, rfl, ?_⟩; replace BK328 := kb hk BK328 NB328_0; replace HO334 := Aside0.mk (Kd.R_mono (Kd.R_keep (IsS127.apart (IsS127.a : IsS127 w0 _ g s0_0 t345 t346) (by (with_reducible repeat (first | apply Kd.R_alloc | apply Kd.R_drewN | apply Kd.R_drew)); exact HO334.out) (by decide)) hk (fun _ h => h.2)) (fun _ h => h.1)); replace HO349 := Aside0.mk (Kd.R_mono (Kd.R_keep (IsS127.apart (IsS127.a : IsS127 w0 _ g s0_0 t345 t346) (by (with_reducible repeat (first | apply Kd.R_alloc | apply Kd.R_drewN | apply Kd.R_drew)); exact HO349.out) (by decide)) hk (fun _ h => h.2)) (fun _ h => h.1)); replace HK := Aside0.mk (KeepBut.trans (kl) hk (.inl rfl)); replace HI0 := Aside0.mk (hi); replace HB := Aside0.mk (hb); (try clear hb hk)) | ((with_reducible refine zf 101 rfl ?_); refine g1 (some 35) Try.func101 #[.pointer (some ⟨g, 0, none⟩), .int .i64 7] ?_; (with_reducible refine (spec_l01Next.calls g s0_0 t351 t352 7 t353 t354 t355 w0 _ ?side1 ?side2 A19.out).mono ?_); (case side1 => exact IsS127.a); (case side2 => exact IsS127.b); rintro e w62 ⟨rfl, hi, hb, hk⟩; refine ⟨_, rfl, ?_⟩; replace BK328 := kb hk BK328 NB328_0; replace HO334 := Aside0.mk (Kd.R_mono (Kd.R_keep (IsS127.apart (IsS127.a : IsS127 w0 _ g s0_0 t351 t352) (by (with_reducible repeat (first | apply Kd.R_alloc | apply Kd.R_drewN | apply Kd.R_drew)); exact HO334.out) (by decide)) hk (fun _ h => h.2)) (fun _ h => h.1)); replace HO349 := Aside0.mk (Kd.R_mono (Kd.R_keep (IsS127.apart (IsS127.a : IsS127 w0 _ g s0_0 t351 t352) (by (with_reducible repeat (first | apply Kd.R_alloc | apply Kd.R_drewN | apply Kd.R_drew)); exact HO349.out) (by decide)) hk (fun _ h => h.2)) (fun _ h => h.1)); replace HK := Aside0.mk (KeepBut.trans (kl) hk (.inl rfl)); replace HI0 := Aside0.mk (hi); replace HB := Aside0.mk (hb); (try clear hb hk)) | ((with_reducible refine zg 36 rfl ?_); refine Kd.R_lit (Kd.int .i64) _ 2 ?hg (N := 36) ?hd (xs := ([0, 0, 1, 2, t353] : List Int)) (inner := [.int .i64 0, .int .i64 0, .int .i64 1, .int .i64 2, .int .i64 t353]) (ok := fun _ => True) (okp := fun _ => True) ?hr ?hp (fun _ hk => hk) trivial (Below.refl _ _) (Nat.le_refl _) (by simp) ?_; (case hd => rfl); (case hg => rfl); (case hr => first | (go_simp; done) | (go_simp; rfl)); (case hp => exact (Reps.one (show Kd.M (Kd.int .i64) _ _ _ 0 [.int .i64 0] from rfl) (Reps.one (show Kd.M (Kd.int .i64) _ _ _ 0 [.int .i64 0] from rfl) (Reps.one (show Kd.M (Kd.int .i64) _ _ _ 1 [.int .i64 1] from rfl) (Reps.one (show Kd.M (Kd.int .i64) _ _ _ 2 [.int .i64 2] from rfl) (Reps.one (show Kd.M (Kd.int .i64) _ _ _ t353 [.int .i64 t353] from rfl) (Reps.none _ _))))))); intro v357 w63 ho64 hb hg_ hnew_; clear hg_ hnew_; (first | rw [← Ny356.out] at ho64 | (simp only [Int.reduceToNat] at ho64; rw [← Ny356.out] at ho64)); have HO358 := Aside0.mk (Kd.R_lower (Kd.R_new' (Kd.R_new' ho64 (Kd.R_lt (by (with_reducible repeat (first | apply Kd.R_alloc | apply Kd.R_drewN | apply Kd.R_drew)); exact HO334.out))) (Kd.R_lt (by (with_reducible repeat (first | apply Kd.R_alloc | apply Kd.R_drewN | apply Kd.R_drew)); exact HO349.out))) (keep_size (w := w) (g := g) (row := none) (kl))); replace HO334 := Aside0.mk (Kd.R_elder' (by (with_reducible repeat (first | apply Kd.R_alloc | apply Kd.R_drewN | apply Kd.R_drew)); exact HO334.out) (Kd.R_base ho64) hb); replace HO349 := Aside0.mk (Kd.R_elder' (by (with_reducible repeat (first | apply Kd.R_alloc | apply Kd.R_drewN | apply Kd.R_drew)); exact HO349.out) (Kd.R_base ho64) hb); replace BK328 := bb BK328 hb; replace HK := Aside0.mk (KeepBut.trans (kl) (KeepBut.of_below hb g none) (.inl rfl)); replace HB := Aside0.mk (below_step IsS127.b hb); replace HI0 := Aside0.mk (IsS127.below (IsS127.a) hb); clear hb ho64; obtain ⟨Ao65, co65, eo65⟩ := Kd.R_slice HO358.out; subst eo65) | ((with_reducible refine zf 100 rfl ?_); refine g1 (some 37) Try.func100 #[.pointer (some ⟨g, 0, none⟩), .slice Ao65 y356.length co65] ?_; (with_reducible refine (spec_l01Pick.calls g s0_0 t354 t355 _ _ y356 t359 t360 t361 w0 _ ?side1 ?side2 ?side3 ?side4 ?side5 A20.out).mono ?_); (case side1 => exact IsS127.a); (case side2 => exact IsS127.b); (case side3 => repeat (first | exact (Kd.R_reads' HO358.out).2.2 | (with_reducible refine Kd.C_alloc ?_ _) | (with_reducible refine Kd.C_drewN ?_ _) | (with_reducible refine Kd.C_drew ?_))); (case side4 => exact (Kd.R_reads' HO358.out).2.1); (case side5 => exact far_slice (IsS127.own_ne HI0.out HO358.out (by decide))); rintro e w66 ⟨rfl, hi, hb, hk⟩; refine ⟨_, rfl, ?_⟩; replace BK328 := kb hk BK328 NB328_0; replace HO334 := Aside0.mk (Kd.R_mono (Kd.R_keep (IsS127.apart (IsS127.a : IsS127 w0 _ g s0_0 t354 t355) (by (with_reducible repeat (first | apply Kd.R_alloc | apply Kd.R_drewN | apply Kd.R_drew)); exact HO334.out) (by decide)) hk (fun _ h => h.2)) (fun _ h => h.1)); replace HO349 := Aside0.mk (Kd.R_mono (Kd.R_keep (IsS127.apart (IsS127.a : IsS127 w0 _ g s0_0 t354 t355) (by (with_reducible repeat (first | apply Kd.R_alloc | apply Kd.R_drewN | apply Kd.R_drew)); exact HO349.out) (by decide)) hk (fun _ h => h.2)) (fun _ h => h.1)); replace HO358 := Aside0.mk (Kd.R_mono (Kd.R_keep (IsS127.apart (IsS127.a : IsS127 w0 _ g s0_0 t354 t355) (by (with_reducible repeat (first | apply Kd.R_alloc | apply Kd.R_drewN | apply Kd.R_drew)); exact HO358.out) (by decide)) hk (fun _ h => h.2)) (fun _ h => h.1)); replace HK := Aside0.mk (KeepBut.trans (kl) hk (.inl rfl)); replace HI0 := Aside0.mk (hi); replace HB := Aside0.mk (hb); (try clear hb hk)) | ((with_reducible refine zf 96 rfl ?_); refine g1 (some 38) Try.func96 #[.int .i64 a1, .int .i64 t359] ?_; (with_reducible refine (spec_l01Power.calls k a1 t359 t362 _ A21.out).mono ?_); rintro e w' ⟨rfl, ⟨nd, rfl⟩⟩; refine ⟨_, rfl, ?_⟩; (try (rw [drewN_self w66]; generalize hq_ : World.drewN w66 _ = w66; have n0_ : Aside0 (Kd.R (Kd.int .i64) 2 w66 w.heap.size (fun k_ => some k_ ≠ (.slice Ao60 y347.length co60 : Value).ownBlock ∧ some k_ ≠ (.slice Ao65 y356.length co65 : Value).ownBlock) (.slice Ao53 y332.length co53) y332) := ⟨by rw [← hq_]; exact (by (with_reducible repeat (first | apply Kd.R_alloc | apply Kd.R_drewN | apply Kd.R_drew)); exact Kd.R_mono HO334.out (fun _ hk => ⟨hk.1.2, hk.2⟩))⟩; have n1_ : Aside0 (Kd.R (Kd.int .i64) 2 w66 w.heap.size (fun k_ => some k_ ≠ (.slice Ao53 y332.length co53 : Value).ownBlock ∧ some k_ ≠ (.slice Ao65 y356.length co65 : Value).ownBlock) (.slice Ao60 y347.length co60) y347) := ⟨by rw [← hq_]; exact (by (with_reducible repeat (first | apply Kd.R_alloc | apply Kd.R_drewN | apply Kd.R_drew)); exact Kd.R_mono HO349.out (fun _ hk => ⟨hk.1.2, hk.2⟩))⟩; have n2_ : Aside0 (Kd.R (Kd.int .i64) 2 w66 w.heap.size (fun k_ => some k_ ≠ (.slice Ao53 y332.length co53 : Value).ownBlock ∧ some k_ ≠ (.slice Ao60 y347.length co60 : Value).ownBlock) (.slice Ao65 y356.length co65) y356) := ⟨by rw [← hq_]; exact (by (with_reducible repeat (first | apply Kd.R_alloc | apply Kd.R_drewN | apply Kd.R_drew)); exact Kd.R_mono HO358.out (fun _ hk => ⟨hk.1.2, hk.2⟩))⟩; have n3_ : Aside0 (w66.heap[gb328]? = some (.cells #[.int .i64 0, .int .i64 0, .int .i64 0] 27 (0, 0))) := ⟨by rw [← hq_]; exact (be BK328)⟩; have n4_ : Aside0 (IsS127 w0 w66 g s0_0 t360 t361) := ⟨by rw [← hq_]; exact (IsS127.a)⟩; have n5_ : Aside0 (KeepBut w w66 g none) := ⟨by rw [← hq_]; exact (kl)⟩; have n6_ : Aside0 (Below w0.heap.size w0 w66) := ⟨by rw [← hq_]; exact (IsS127.b)⟩; clear HO334 HO349 HO358 BK328 HI0 HK HB hq_; have HO334 := n0_; have HO349 := n1_; have HO358 := n2_; have BK328 := n3_; have HI0 := n4_; have HK := n5_; have HB := n6_; clear n0_ n1_ n2_ n3_ n4_ n5_ n6_))) | ((with_reducible refine zf 97 rfl ?_); refine g1 (some 40) Try.func97 #[.int .i64 a1, .int .i64 t350, .int .i64 t362, .int .i64 t335] ?_; (with_reducible refine (spec_l01Of.calls k a1 t350 t362 t335 t363 t364 t365 false _ A22.out).mono ?_); rintro e w67 ⟨rfl, hb⟩; refine ⟨_, rfl, ?_⟩; replace HO334 := Aside0.mk (Kd.R_below (by (with_reducible repeat (first | apply Kd.R_alloc | apply Kd.R_drewN | apply Kd.R_drew)); exact HO334.out) hb); replace HO349 := Aside0.mk (Kd.R_below (by (with_reducible repeat (first | apply Kd.R_alloc | apply Kd.R_drewN | apply Kd.R_drew)); exact HO349.out) hb); replace HO358 := Aside0.mk (Kd.R_below (by (with_reducible repeat (first | apply Kd.R_alloc | apply Kd.R_drewN | apply Kd.R_drew)); exact HO358.out) hb); replace BK328 := bb BK328 hb; replace HK := Aside0.mk (KeepBut.trans (kl) (KeepBut.of_below hb g none) (.inl rfl)); replace HB := Aside0.mk (below_step IsS127.b hb); replace HI0 := Aside0.mk (IsS127.below (IsS127.a) hb); (try clear hb)) | ((with_reducible refine zg 7 rfl ?_); refine z3 7 27 0 0 0 ?_; intro gb367 hg w68 BK367 hb; have GW367 := Aside0.mk ((by rw [hg]; exact (keep_size (w := w) (g := g) (row := none) (kl)) : w.heap.size ≤ gb367)); have GE367 := Aside0.mk ((Nat.le_trans HW0.out (by rw [hg]; exact (keep_size (w := w) (g := g) (row := none) (kl)) : w.heap.size ≤ gb367) : w0.heap.size ≤ gb367)); have NB328_367 := nl hg BK328; have NB0_367 := Aside0.mk ((by rw [hg]; exact Nat.ne_of_lt (IsS127.lt (IsS127.a : IsS127 w0 _ g s0_0 t360 t361)) : g ≠ gb367)); have NB367_0 := Aside0.mk ((by rw [hg]; exact Nat.ne_of_gt (IsS127.lt (IsS127.a : IsS127 w0 _ g s0_0 t360 t361)) : gb367 ≠ g)); replace HO334 := Aside0.mk (Kd.R_below (by (with_reducible repeat (first | apply Kd.R_alloc | apply Kd.R_drewN | apply Kd.R_drew)); exact HO334.out) hb); replace HO349 := Aside0.mk (Kd.R_below (by (with_reducible repeat (first | apply Kd.R_alloc | apply Kd.R_drewN | apply Kd.R_drew)); exact HO349.out) hb); replace HO358 := Aside0.mk (Kd.R_below (by (with_reducible repeat (first | apply Kd.R_alloc | apply Kd.R_drewN | apply Kd.R_drew)); exact HO358.out) hb); replace BK328 := bb BK328 hb; replace HK := Aside0.mk (KeepBut.trans (kl) (KeepBut.of_below hb g none) (.inl rfl)); replace HB := Aside0.mk (below_step IsS127.b hb); replace HI0 := Aside0.mk (IsS127.below (IsS127.a) hb); clear hb hg; obtain ⟨hnb69, hnc69⟩ := zm NB328_367; have hnb70 := NB367_0.out; have hnc70 := NB0_367.out; obtain ⟨hcz71_0, hcz71_1, hcz71_2, hfz71_0, hfz71_1, hfz71_2⟩ := cq3 BK367; have hnb72 := NB328_0.out; have hnc72 := NB0_328.out; obtain ⟨hcz73_0, hcz73_1, hcz73_2, hfz73_0, hfz73_1, hfz73_2⟩ := cq3 BK328))
   refine bodyPost_ret (results_cell_row rfl _ _ gb328 27 #[.int .i64 t335, .int .i64 0, .int .i64 0] (0, 0) _ rfl (bp) Try.underlying27 rfl (by kernel_rfl)) rfl ?_
   exact ⟨er, IsS127.a, IsS127.b, kl⟩

/-! ### spec_l01Bad: function 142 -/
def spec_l01Bad.f (s0_0 : List Int) (s0_1 : Int) (s0_2 : Int) (a1_0 : Int) (a1_1 : Int) (a1_2 : Int) : Option (Int × Int × Int × Int × Int) := (spec_l01Next.f s0_0 s0_1 s0_2 40).bind fun bt370 => (if bt370.1 = 0 then ((spec_l01Pick.f s0_0 bt370.2.1 bt370.2.2 (([(-7), 7, wrap64 (a1_0 - 1), 1099511627776] : List Int))).bind fun bt376 => (some (bt376.1, a1_1, a1_2, bt376.2.1, bt376.2.2))) else (if bt370.1 = 1 then ((spec_l01Pick.f s0_0 bt370.2.1 bt370.2.2 (([(-1), wrap64 (a1_1 * 7), 1099511627776] : List Int))).bind fun bt382 => (some (a1_0, bt382.1, a1_2, bt382.2.1, bt382.2.2))) else (if bt370.1 = 2 then ((spec_l01Pick.f s0_0 bt370.2.1 bt370.2.2 (([(-1), wrap64 (a1_2 + 1), 7] : List Int))).bind fun bt388 => (some (a1_0, a1_1, bt388.1, bt388.2.1, bt388.2.2))) else (some (a1_0, a1_1, a1_2, bt370.2.1, bt370.2.2)))))
set_option maxHeartbeats 8000000 in
set_option maxRecDepth 100000 in
theorem spec_l01Bad.calls (g : Nat) (s0_0 : List Int) (s0_1 : Int) (s0_2 : Int) (a1_0 : Int) (a1_1 : Int) (a1_2 : Int) (r1 : Int) (r2 : Int) (r3 : Int) (r4 : Int) (r5 : Int) (w0 w : World) (hI : IsS127 w0 w g s0_0 s0_1 s0_2) (hB : Below w0.heap.size w0 w) (h : spec_l01Bad.f s0_0 s0_1 s0_2 a1_0 a1_1 a1_2 = some (r1, r2, r3, r4, r5)) :
  Calls Try.prog 142 #[.pointer (some ⟨g, 0, none⟩), .agg #[.int .i64 a1_0, .int .i64 a1_1, .int .i64 a1_2]] w fun e w' => e = .returned (.agg #[.int .i64 r1, .int .i64 r2, .int .i64 r3]) ∧ IsS127 w0 w' g s0_0 r4 r5 ∧ Below w0.heap.size w0 w' ∧ KeepBut w w' g none := by
 have hu27 := Try.underlying27
 have HI0 := Aside0.mk hI
 have HK := Aside0.mk (KeepBut.refl w g none)
 have HL := Aside0.mk hB.size
 clear hI
 have HW0 := Aside0.mk hB.size
 have HB := Aside0.mk hB
 clear hB
 unfold spec_l01Bad.f at h
 have H := h
 clear h
 replace H := zi H
 obtain ⟨⟨t370, t371, t372⟩, A3, H⟩ := H
 try dsimp only at H
 replace H := ii H
 rcases H with ⟨c4, H⟩ | ⟨c4, H⟩
 ·obtain ⟨c4b0, c4b1⟩ := zz c4
  clear c4
  obtain ⟨y373, hy373⟩ : ∃ y_ : List Int, y_ = (([(-7), 7, wrap64 (a1_0 - 1), 1099511627776] : List Int)) := ⟨_, rfl⟩
  replace H : ((spec_l01Pick.f s0_0 t371 t372 y373).bind fun bt376 => (some (bt376.1, a1_1, a1_2, bt376.2.1, bt376.2.2))) = some (r1, r2, r3, r4, r5) := by first | exact hy373 ▸ H | exact H
  have Ny373 := Aside0.mk hy373
  clear hy373
  replace H := zi H
  obtain ⟨⟨t376, t377, t378⟩, A5, H⟩ := H
  try dsimp only at H
  simp only [Option.some.injEq, Prod.mk.injEq] at H
  obtain ⟨rfl, rfl, rfl, rfl, rfl⟩ := H
  go_enter Try.func142, Try.ntmps142
  go_wp2_with (first | ((with_reducible refine zg 3 rfl ?_); refine z3 3 27 a1_0 a1_1 a1_2 ?_; intro gb368 hg w6 BK368 hb; have GW368 := Aside0.mk ((by rw [hg]; exact (keep_size (w := w) (g := g) (row := none) (kl)) : w.heap.size ≤ gb368)); have GE368 := Aside0.mk ((Nat.le_trans HW0.out (by rw [hg]; exact (keep_size (w := w) (g := g) (row := none) (kl)) : w.heap.size ≤ gb368) : w0.heap.size ≤ gb368)); have NB0_368 := Aside0.mk ((by rw [hg]; exact Nat.ne_of_lt (IsS127.lt (IsS127.a : IsS127 w0 _ g s0_0 s0_1 s0_2)) : g ≠ gb368)); have NB368_0 := Aside0.mk ((by rw [hg]; exact Nat.ne_of_gt (IsS127.lt (IsS127.a : IsS127 w0 _ g s0_0 s0_1 s0_2)) : gb368 ≠ g)); replace HK := Aside0.mk (KeepBut.trans (kl) (KeepBut.of_below hb g none) (.inl rfl)); replace HB := Aside0.mk (below_step IsS127.b hb); replace HI0 := Aside0.mk (IsS127.below (IsS127.a) hb); clear hb hg) | ((with_reducible refine zg 4 rfl ?_); refine z3 4 27 0 0 0 ?_; intro gb369 hg w7 BK369 hb; have GW369 := Aside0.mk ((by rw [hg]; exact (keep_size (w := w) (g := g) (row := none) (kl)) : w.heap.size ≤ gb369)); have GE369 := Aside0.mk ((Nat.le_trans HW0.out (by rw [hg]; exact (keep_size (w := w) (g := g) (row := none) (kl)) : w.heap.size ≤ gb369) : w0.heap.size ≤ gb369)); have NB368_369 := nl hg BK368; have NB0_369 := Aside0.mk ((by rw [hg]; exact Nat.ne_of_lt (IsS127.lt (IsS127.a : IsS127 w0 _ g s0_0 s0_1 s0_2)) : g ≠ gb369)); have NB369_0 := Aside0.mk ((by rw [hg]; exact Nat.ne_of_gt (IsS127.lt (IsS127.a : IsS127 w0 _ g s0_0 s0_1 s0_2)) : gb369 ≠ g)); replace BK368 := bb BK368 hb; replace HK := Aside0.mk (KeepBut.trans (kl) (KeepBut.of_below hb g none) (.inl rfl)); replace HB := Aside0.mk (below_step IsS127.b hb); replace HI0 := Aside0.mk (IsS127.below (IsS127.a) hb); clear hb hg) | ((with_reducible refine zf 101 rfl ?_); refine g1 (some 6) Try.func101 #[.pointer (some ⟨g, 0, none⟩), .int .i64 40] ?_; (with_reducible refine (spec_l01Next.calls g s0_0 s0_1 s0_2 40 t370 t371 t372 w0 _ ?side1 ?side2 A3.out).mono ?_); (case side1 => exact IsS127.a); (case side2 => exact IsS127.b); rintro e w8 ⟨rfl, hi, hb, hk⟩; refine ⟨_, rfl, ?_⟩; replace BK368 := kb hk BK368 NB368_0; replace BK369 := kb hk BK369 NB369_0; replace HK := Aside0.mk (KeepBut.trans (kl) hk (.inl rfl)); replace HI0 := Aside0.mk (hi); replace HB := Aside0.mk (hb); (try clear hb hk); obtain ⟨hnb9, hnc9⟩ := zn NB368_369; have hnb10 := NB368_0.out; have hnc10 := NB0_368.out; obtain ⟨hcz11_0, hcz11_1, hcz11_2, hfz11_0, hfz11_1, hfz11_2⟩ := cq3 BK368) | ((with_reducible refine zg 13 rfl ?_); refine Kd.R_lit (Kd.int .i64) _ 2 ?hg (N := 13) ?hd (xs := ([(-7), 7, wrap64 (a1_0 - 1), 1099511627776] : List Int)) (inner := [.int .i64 (-7), .int .i64 7, .int .i64 (wrap64 (a1_0 - 1)), .int .i64 1099511627776]) (ok := fun _ => True) (okp := fun _ => True) ?hr ?hp (fun _ hk => hk) trivial (Below.refl _ _) (Nat.le_refl _) (by simp) ?_; (case hd => rfl); (case hg => rfl); (case hr => first | (go_simp; done) | (go_simp; rfl)); (case hp => exact (Reps.one (show Kd.M (Kd.int .i64) _ _ _ (-7) [.int .i64 (-7)] from rfl) (Reps.one (show Kd.M (Kd.int .i64) _ _ _ 7 [.int .i64 7] from rfl) (Reps.one (show Kd.M (Kd.int .i64) _ _ _ (wrap64 (a1_0 - 1)) [.int .i64 (wrap64 (a1_0 - 1))] from rfl) (Reps.one (show Kd.M (Kd.int .i64) _ _ _ 1099511627776 [.int .i64 1099511627776] from rfl) (Reps.none _ _)))))); intro v374 w12 ho13 hb hg_ hnew_; clear hg_ hnew_; (first | rw [← Ny373.out] at ho13 | (simp only [Int.reduceToNat] at ho13; rw [← Ny373.out] at ho13)); have HO375 := Aside0.mk (Kd.R_lower ho13 (keep_size (w := w) (g := g) (row := none) (kl))); replace BK368 := bb BK368 hb; replace BK369 := bb BK369 hb; replace HK := Aside0.mk (KeepBut.trans (kl) (KeepBut.of_below hb g none) (.inl rfl)); replace HB := Aside0.mk (below_step IsS127.b hb); replace HI0 := Aside0.mk (IsS127.below (IsS127.a) hb); clear hb ho13; obtain ⟨Ao14, co14, eo14⟩ := Kd.R_slice HO375.out; subst eo14) | ((with_reducible refine zf 100 rfl ?_); refine g1 (some 14) Try.func100 #[.pointer (some ⟨g, 0, none⟩), .slice Ao14 y373.length co14] ?_; (with_reducible refine (spec_l01Pick.calls g s0_0 t371 t372 _ _ y373 t376 t377 t378 w0 _ ?side1 ?side2 ?side3 ?side4 ?side5 A5.out).mono ?_); (case side1 => exact IsS127.a); (case side2 => exact IsS127.b); (case side3 => repeat (first | exact (Kd.R_reads' HO375.out).2.2 | (with_reducible refine Kd.C_alloc ?_ _) | (with_reducible refine Kd.C_drewN ?_ _) | (with_reducible refine Kd.C_drew ?_))); (case side4 => exact (Kd.R_reads' HO375.out).2.1); (case side5 => exact far_slice (IsS127.own_ne HI0.out HO375.out (by decide))); rintro e w15 ⟨rfl, hi, hb, hk⟩; refine ⟨_, rfl, ?_⟩; replace BK368 := kb hk BK368 NB368_0; replace BK369 := kb hk BK369 NB369_0; replace HO375 := Aside0.mk (Kd.R_mono (Kd.R_keep (IsS127.apart (IsS127.a : IsS127 w0 _ g s0_0 t371 t372) (by (with_reducible repeat (first | apply Kd.R_alloc | apply Kd.R_drewN | apply Kd.R_drew)); exact HO375.out) (by decide)) hk (fun _ h => h.2)) (fun _ h => h.1)); replace HK := Aside0.mk (KeepBut.trans (kl) hk (.inl rfl)); replace HI0 := Aside0.mk (hi); replace HB := Aside0.mk (hb); (try clear hb hk); obtain ⟨hcz16_0, hcz16_1, hcz16_2, hfz16_0, hfz16_1, hfz16_2⟩ := cq3 BK368; have hnb17 := NB369_0.out; have hnc17 := NB0_369.out; obtain ⟨hcz18_0, hcz18_1, hcz18_2, hfz18_0, hfz18_1, hfz18_2⟩ := cq3 BK369))
  refine bodyPost_ret (results_cell_row rfl _ _ gb369 27 #[.int .i64 t376, .int .i64 a1_1, .int .i64 a1_2] (0, 0) _ rfl (bp) Try.underlying27 rfl (by kernel_rfl)) rfl ?_
  exact ⟨er, IsS127.a, IsS127.b, kl⟩
 ·obtain ⟨c4b0, c4b1⟩ := zy c4
  replace H := ii H
  rcases H with ⟨c19, H⟩ | ⟨c19, H⟩
  ·obtain ⟨c19b0, c19b1⟩ := zz c19
   clear c19
   obtain ⟨y379, hy379⟩ : ∃ y_ : List Int, y_ = (([(-1), wrap64 (a1_1 * 7), 1099511627776] : List Int)) := ⟨_, rfl⟩
   replace H : ((spec_l01Pick.f s0_0 t371 t372 y379).bind fun bt382 => (some (a1_0, bt382.1, a1_2, bt382.2.1, bt382.2.2))) = some (r1, r2, r3, r4, r5) := by first | exact hy379 ▸ H | exact H
   have Ny379 := Aside0.mk hy379
   clear hy379
   replace H := zi H
   obtain ⟨⟨t382, t383, t384⟩, A20, H⟩ := H
   try dsimp only at H
   simp only [Option.some.injEq, Prod.mk.injEq] at H
   obtain ⟨rfl, rfl, rfl, rfl, rfl⟩ := H
   go_enter Try.func142, Try.ntmps142
   go_wp2_with (first | ((with_reducible refine zg 3 rfl ?_); refine z3 3 27 a1_0 a1_1 a1_2 ?_; intro gb368 hg w21 BK368 hb; have GW368 := Aside0.mk ((by rw [hg]; exact (keep_size (w := w) (g := g) (row := none) (kl)) : w.heap.size ≤ gb368)); have GE368 := Aside0.mk ((Nat.le_trans HW0.out (by rw [hg]; exact (keep_size (w := w) (g := g) (row := none) (kl)) : w.heap.size ≤ gb368) : w0.heap.size ≤ gb368)); have NB0_368 := Aside0.mk ((by rw [hg]; exact Nat.ne_of_lt (IsS127.lt (IsS127.a : IsS127 w0 _ g s0_0 s0_1 s0_2)) : g ≠ gb368)); have NB368_0 := Aside0.mk ((by rw [hg]; exact Nat.ne_of_gt (IsS127.lt (IsS127.a : IsS127 w0 _ g s0_0 s0_1 s0_2)) : gb368 ≠ g)); replace HK := Aside0.mk (KeepBut.trans (kl) (KeepBut.of_below hb g none) (.inl rfl)); replace HB := Aside0.mk (below_step IsS127.b hb); replace HI0 := Aside0.mk (IsS127.below (IsS127.a) hb); clear hb hg) | ((with_reducible refine zg 4 rfl ?_); refine z3 4 27 0 0 0 ?_; intro gb369 hg w22 BK369 hb; have GW369 := Aside0.mk ((by rw [hg]; exact (keep_size (w := w) (g := g) (row := none) (kl)) : w.heap.size ≤ gb369)); have GE369 := Aside0.mk ((Nat.le_trans HW0.out (by rw [hg]; exact (keep_size (w := w) (g := g) (row := none) (kl)) : w.heap.size ≤ gb369) : w0.heap.size ≤ gb369)); have NB368_369 := nl hg BK368; have NB0_369 := Aside0.mk ((by rw [hg]; exact Nat.ne_of_lt (IsS127.lt (IsS127.a : IsS127 w0 _ g s0_0 s0_1 s0_2)) : g ≠ gb369)); have NB369_0 := Aside0.mk ((by rw [hg]; exact Nat.ne_of_gt (IsS127.lt (IsS127.a : IsS127 w0 _ g s0_0 s0_1 s0_2)) : gb369 ≠ g)); replace BK368 := bb BK368 hb; replace HK := Aside0.mk (KeepBut.trans (kl) (KeepBut.of_below hb g none) (.inl rfl)); replace HB := Aside0.mk (below_step IsS127.b hb); replace HI0 := Aside0.mk (IsS127.below (IsS127.a) hb); clear hb hg) | ((with_reducible refine zf 101 rfl ?_); refine g1 (some 6) Try.func101 #[.pointer (some ⟨g, 0, none⟩), .int .i64 40] ?_; (with_reducible refine (spec_l01Next.calls g s0_0 s0_1 s0_2 40 t370 t371 t372 w0 _ ?side1 ?side2 A3.out).mono ?_); (case side1 => exact IsS127.a); (case side2 => exact IsS127.b); rintro e w23 ⟨rfl, hi, hb, hk⟩; refine ⟨_, rfl, ?_⟩; replace BK368 := kb hk BK368 NB368_0; replace BK369 := kb hk BK369 NB369_0; replace HK := Aside0.mk (KeepBut.trans (kl) hk (.inl rfl)); replace HI0 := Aside0.mk (hi); replace HB := Aside0.mk (hb); (try clear hb hk); obtain ⟨hnb24, hnc24⟩ := zn NB368_369; have hnb25 := NB368_0.out; have hnc25 := NB0_368.out; obtain ⟨hcz26_0, hcz26_1, hcz26_2, hfz26_0, hfz26_1, hfz26_2⟩ := cq3 BK368) | ((with_reducible refine zg 22 rfl ?_); refine Kd.R_lit (Kd.int .i64) _ 2 ?hg (N := 22) ?hd (xs := ([(-1), wrap64 (a1_1 * 7), 1099511627776] : List Int)) (inner := [.int .i64 (-1), .int .i64 (wrap64 (a1_1 * 7)), .int .i64 1099511627776]) (ok := fun _ => True) (okp := fun _ => True) ?hr ?hp (fun _ hk => hk) trivial (Below.refl _ _) (Nat.le_refl _) (by simp) ?_; (case hd => rfl); (case hg => rfl); (case hr => first | (go_simp; done) | (go_simp; rfl)); (case hp => exact (Reps.one (show Kd.M (Kd.int .i64) _ _ _ (-1) [.int .i64 (-1)] from rfl) (Reps.one (show Kd.M (Kd.int .i64) _ _ _ (wrap64 (a1_1 * 7)) [.int .i64 (wrap64 (a1_1 * 7))] from rfl) (Reps.one (show Kd.M (Kd.int .i64) _ _ _ 1099511627776 [.int .i64 1099511627776] from rfl) (Reps.none _ _))))); intro v380 w27 ho28 hb hg_ hnew_; clear hg_ hnew_; (first | rw [← Ny379.out] at ho28 | (simp only [Int.reduceToNat] at ho28; rw [← Ny379.out] at ho28)); have HO381 := Aside0.mk (Kd.R_lower ho28 (keep_size (w := w) (g := g) (row := none) (kl))); replace BK368 := bb BK368 hb; replace BK369 := bb BK369 hb; replace HK := Aside0.mk (KeepBut.trans (kl) (KeepBut.of_below hb g none) (.inl rfl)); replace HB := Aside0.mk (below_step IsS127.b hb); replace HI0 := Aside0.mk (IsS127.below (IsS127.a) hb); clear hb ho28; obtain ⟨Ao29, co29, eo29⟩ := Kd.R_slice HO381.out; subst eo29) | ((with_reducible refine zf 100 rfl ?_); refine g1 (some 23) Try.func100 #[.pointer (some ⟨g, 0, none⟩), .slice Ao29 y379.length co29] ?_; (with_reducible refine (spec_l01Pick.calls g s0_0 t371 t372 _ _ y379 t382 t383 t384 w0 _ ?side1 ?side2 ?side3 ?side4 ?side5 A20.out).mono ?_); (case side1 => exact IsS127.a); (case side2 => exact IsS127.b); (case side3 => repeat (first | exact (Kd.R_reads' HO381.out).2.2 | (with_reducible refine Kd.C_alloc ?_ _) | (with_reducible refine Kd.C_drewN ?_ _) | (with_reducible refine Kd.C_drew ?_))); (case side4 => exact (Kd.R_reads' HO381.out).2.1); (case side5 => exact far_slice (IsS127.own_ne HI0.out HO381.out (by decide))); rintro e w30 ⟨rfl, hi, hb, hk⟩; refine ⟨_, rfl, ?_⟩; replace BK368 := kb hk BK368 NB368_0; replace BK369 := kb hk BK369 NB369_0; replace HO381 := Aside0.mk (Kd.R_mono (Kd.R_keep (IsS127.apart (IsS127.a : IsS127 w0 _ g s0_0 t371 t372) (by (with_reducible repeat (first | apply Kd.R_alloc | apply Kd.R_drewN | apply Kd.R_drew)); exact HO381.out) (by decide)) hk (fun _ h => h.2)) (fun _ h => h.1)); replace HK := Aside0.mk (KeepBut.trans (kl) hk (.inl rfl)); replace HI0 := Aside0.mk (hi); replace HB := Aside0.mk (hb); (try clear hb hk); obtain ⟨hcz31_0, hcz31_1, hcz31_2, hfz31_0, hfz31_1, hfz31_2⟩ := cq3 BK368; have hnb32 := NB369_0.out; have hnc32 := NB0_369.out; obtain ⟨hcz33_0, hcz33_1, hcz33_2, hfz33_0, hfz33_1, hfz33_2⟩ := cq3 BK369))
   refine bodyPost_ret (results_cell_row rfl _ _ gb369 27 #[.int .i64 a1_0, .int .i64 t382, .int .i64 a1_2] (0, 0) _ rfl (bp) Try.underlying27 rfl (by kernel_rfl)) rfl ?_
   exact ⟨er, IsS127.a, IsS127.b, kl⟩
  ·obtain ⟨c19b0, c19b1⟩ := zy c19
   replace H := ii H
   rcases H with ⟨c34, H⟩ | ⟨c34, H⟩
   ·obtain ⟨c34b0, c34b1⟩ := zz c34
    clear c34
    obtain ⟨y385, hy385⟩ : ∃ y_ : List Int, y_ = (([(-1), wrap64 (a1_2 + 1), 7] : List Int)) := ⟨_, rfl⟩
    replace H : ((spec_l01Pick.f s0_0 t371 t372 y385).bind fun bt388 => (some (a1_0, a1_1, bt388.1, bt388.2.1, bt388.2.2))) = some (r1, r2, r3, r4, r5) := by first | exact hy385 ▸ H | exact H
    have Ny385 := Aside0.mk hy385
    clear hy385
    replace H := zi H
    obtain ⟨⟨t388, t389, t390⟩, A35, H⟩ := H
    try dsimp only at H
    simp only [Option.some.injEq, Prod.mk.injEq] at H
    obtain ⟨rfl, rfl, rfl, rfl, rfl⟩ := H
    go_enter Try.func142, Try.ntmps142
    go_wp2_with (first | ((with_reducible refine zg 3 rfl ?_); refine z3 3 27 a1_0 a1_1 a1_2 ?_; intro gb368 hg w36 BK368 hb; have GW368 := Aside0.mk ((by rw [hg]; exact (keep_size (w := w) (g := g) (row := none) (kl)) : w.heap.size ≤ gb368)); have GE368 := Aside0.mk ((Nat.le_trans HW0.out (by rw [hg]; exact (keep_size (w := w) (g := g) (row := none) (kl)) : w.heap.size ≤ gb368) : w0.heap.size ≤ gb368)); have NB0_368 := Aside0.mk ((by rw [hg]; exact Nat.ne_of_lt (IsS127.lt (IsS127.a : IsS127 w0 _ g s0_0 s0_1 s0_2)) : g ≠ gb368)); have NB368_0 := Aside0.mk ((by rw [hg]; exact Nat.ne_of_gt (IsS127.lt (IsS127.a : IsS127 w0 _ g s0_0 s0_1 s0_2)) : gb368 ≠ g)); replace HK := Aside0.mk (KeepBut.trans (kl) (KeepBut.of_below hb g none) (.inl rfl)); replace HB := Aside0.mk (below_step IsS127.b hb); replace HI0 := Aside0.mk (IsS127.below (IsS127.a) hb); clear hb hg) | ((with_reducible refine zg 4 rfl ?_); refine z3 4 27 0 0 0 ?_; intro gb369 hg w37 BK369 hb; have GW369 := Aside0.mk ((by rw [hg]; exact (keep_size (w := w) (g := g) (row := none) (kl)) : w.heap.size ≤ gb369)); have GE369 := Aside0.mk ((Nat.le_trans HW0.out (by rw [hg]; exact (keep_size (w := w) (g := g) (row := none) (kl)) : w.heap.size ≤ gb369) : w0.heap.size ≤ gb369)); have NB368_369 := nl hg BK368; have NB0_369 := Aside0.mk ((by rw [hg]; exact Nat.ne_of_lt (IsS127.lt (IsS127.a : IsS127 w0 _ g s0_0 s0_1 s0_2)) : g ≠ gb369)); have NB369_0 := Aside0.mk ((by rw [hg]; exact Nat.ne_of_gt (IsS127.lt (IsS127.a : IsS127 w0 _ g s0_0 s0_1 s0_2)) : gb369 ≠ g)); replace BK368 := bb BK368 hb; replace HK := Aside0.mk (KeepBut.trans (kl) (KeepBut.of_below hb g none) (.inl rfl)); replace HB := Aside0.mk (below_step IsS127.b hb); replace HI0 := Aside0.mk (IsS127.below (IsS127.a) hb); clear hb hg) | ((with_reducible refine zf 101 rfl ?_); refine g1 (some 6) Try.func101 #[.pointer (some ⟨g, 0, none⟩), .int .i64 40] ?_; (with_reducible refine (spec_l01Next.calls g s0_0 s0_1 s0_2 40 t370 t371 t372 w0 _ ?side1 ?side2 A3.out).mono ?_); (case side1 => exact IsS127.a); (case side2 => exact IsS127.b); rintro e w38 ⟨rfl, hi, hb, hk⟩; refine ⟨_, rfl, ?_⟩; replace BK368 := kb hk BK368 NB368_0; replace BK369 := kb hk BK369 NB369_0; replace HK := Aside0.mk (KeepBut.trans (kl) hk (.inl rfl)); replace HI0 := Aside0.mk (hi); replace HB := Aside0.mk (hb); (try clear hb hk); obtain ⟨hnb39, hnc39⟩ := zn NB368_369; have hnb40 := NB368_0.out; have hnc40 := NB0_368.out; obtain ⟨hcz41_0, hcz41_1, hcz41_2, hfz41_0, hfz41_1, hfz41_2⟩ := cq3 BK368) | ((with_reducible refine zg 31 rfl ?_); refine Kd.R_lit (Kd.int .i64) _ 2 ?hg (N := 31) ?hd (xs := ([(-1), wrap64 (a1_2 + 1), 7] : List Int)) (inner := [.int .i64 (-1), .int .i64 (wrap64 (a1_2 + 1)), .int .i64 7]) (ok := fun _ => True) (okp := fun _ => True) ?hr ?hp (fun _ hk => hk) trivial (Below.refl _ _) (Nat.le_refl _) (by simp) ?_; (case hd => rfl); (case hg => rfl); (case hr => first | (go_simp; done) | (go_simp; rfl)); (case hp => exact (Reps.one (show Kd.M (Kd.int .i64) _ _ _ (-1) [.int .i64 (-1)] from rfl) (Reps.one (show Kd.M (Kd.int .i64) _ _ _ (wrap64 (a1_2 + 1)) [.int .i64 (wrap64 (a1_2 + 1))] from rfl) (Reps.one (show Kd.M (Kd.int .i64) _ _ _ 7 [.int .i64 7] from rfl) (Reps.none _ _))))); intro v386 w42 ho43 hb hg_ hnew_; clear hg_ hnew_; (first | rw [← Ny385.out] at ho43 | (simp only [Int.reduceToNat] at ho43; rw [← Ny385.out] at ho43)); have HO387 := Aside0.mk (Kd.R_lower ho43 (keep_size (w := w) (g := g) (row := none) (kl))); replace BK368 := bb BK368 hb; replace BK369 := bb BK369 hb; replace HK := Aside0.mk (KeepBut.trans (kl) (KeepBut.of_below hb g none) (.inl rfl)); replace HB := Aside0.mk (below_step IsS127.b hb); replace HI0 := Aside0.mk (IsS127.below (IsS127.a) hb); clear hb ho43; obtain ⟨Ao44, co44, eo44⟩ := Kd.R_slice HO387.out; subst eo44) | ((with_reducible refine zf 100 rfl ?_); refine g1 (some 32) Try.func100 #[.pointer (some ⟨g, 0, none⟩), .slice Ao44 y385.length co44] ?_; (with_reducible refine (spec_l01Pick.calls g s0_0 t371 t372 _ _ y385 t388 t389 t390 w0 _ ?side1 ?side2 ?side3 ?side4 ?side5 A35.out).mono ?_); (case side1 => exact IsS127.a); (case side2 => exact IsS127.b); (case side3 => repeat (first | exact (Kd.R_reads' HO387.out).2.2 | (with_reducible refine Kd.C_alloc ?_ _) | (with_reducible refine Kd.C_drewN ?_ _) | (with_reducible refine Kd.C_drew ?_))); (case side4 => exact (Kd.R_reads' HO387.out).2.1); (case side5 => exact far_slice (IsS127.own_ne HI0.out HO387.out (by decide))); rintro e w45 ⟨rfl, hi, hb, hk⟩; refine ⟨_, rfl, ?_⟩; replace BK368 := kb hk BK368 NB368_0; replace BK369 := kb hk BK369 NB369_0; replace HO387 := Aside0.mk (Kd.R_mono (Kd.R_keep (IsS127.apart (IsS127.a : IsS127 w0 _ g s0_0 t371 t372) (by (with_reducible repeat (first | apply Kd.R_alloc | apply Kd.R_drewN | apply Kd.R_drew)); exact HO387.out) (by decide)) hk (fun _ h => h.2)) (fun _ h => h.1)); replace HK := Aside0.mk (KeepBut.trans (kl) hk (.inl rfl)); replace HI0 := Aside0.mk (hi); replace HB := Aside0.mk (hb); (try clear hb hk); obtain ⟨hcz46_0, hcz46_1, hcz46_2, hfz46_0, hfz46_1, hfz46_2⟩ := cq3 BK368; have hnb47 := NB369_0.out; have hnc47 := NB0_369.out; obtain ⟨hcz48_0, hcz48_1, hcz48_2, hfz48_0, hfz48_1, hfz48_2⟩ := cq3 BK369))
    refine bodyPost_ret (results_cell_row rfl _ _ gb369 27 #[.int .i64 a1_0, .int .i64 a1_1, .int .i64 t388] (0, 0) _ rfl (bp) Try.underlying27 rfl (by kernel_rfl)) rfl ?_
    exact ⟨er, IsS127.a, IsS127.b, kl⟩
   ·obtain ⟨c34b0, c34b1⟩ := zy c34
    simp only [Option.some.injEq, Prod.mk.injEq] at H
    obtain ⟨rfl, rfl, rfl, rfl, rfl⟩ := H
    go_enter Try.func142, Try.ntmps142
    go_wp2_with (first | ((with_reducible refine zg 3 rfl ?_); refine z3 3 27 a1_0 a1_1 a1_2 ?_; intro gb368 hg w49 BK368 hb; have GW368 := Aside0.mk ((by rw [hg]; exact (keep_size (w := w) (g := g) (row := none) (kl)) : w.heap.size ≤ gb368)); have GE368 := Aside0.mk ((Nat.le_trans HW0.out (by rw [hg]; exact (keep_size (w := w) (g := g) (row := none) (kl)) : w.heap.size ≤ gb368) : w0.heap.size ≤ gb368)); have NB0_368 := Aside0.mk ((by rw [hg]; exact Nat.ne_of_lt (IsS127.lt (IsS127.a : IsS127 w0 _ g s0_0 s0_1 s0_2)) : g ≠ gb368)); have NB368_0 := Aside0.mk ((by rw [hg]; exact Nat.ne_of_gt (IsS127.lt (IsS127.a : IsS127 w0 _ g s0_0 s0_1 s0_2)) : gb368 ≠ g)); replace HK := Aside0.mk (KeepBut.trans (kl) (KeepBut.of_below hb g none) (.inl rfl)); replace HB := Aside0.mk (below_step IsS127.b hb); replace HI0 := Aside0.mk (IsS127.below (IsS127.a) hb); clear hb hg) | ((with_reducible refine zg 4 rfl ?_); refine z3 4 27 0 0 0 ?_; intro gb369 hg w50 BK369 hb; have GW369 := Aside0.mk ((by rw [hg]; exact (keep_size (w := w) (g := g) (row := none) (kl)) : w.heap.size ≤ gb369)); have GE369 := Aside0.mk ((Nat.le_trans HW0.out (by rw [hg]; exact (keep_size (w := w) (g := g) (row := none) (kl)) : w.heap.size ≤ gb369) : w0.heap.size ≤ gb369)); have NB368_369 := nl hg BK368; have NB0_369 := Aside0.mk ((by rw [hg]; exact Nat.ne_of_lt (IsS127.lt (IsS127.a : IsS127 w0 _ g s0_0 s0_1 s0_2)) : g ≠ gb369)); have NB369_0 := Aside0.mk ((by rw [hg]; exact Nat.ne_of_gt (IsS127.lt (IsS127.a : IsS127 w0 _ g s0_0 s0_1 s0_2)) : gb369 ≠ g)); replace BK368 := bb BK368 hb; replace HK := Aside0.mk (KeepBut.trans (kl) (KeepBut.of_below hb g none) (.inl rfl)); replace HB := Aside0.mk (below_step IsS127.b hb); replace HI0 := Aside0.mk (IsS127.below (IsS127.a) hb); clear hb hg) | ((with_reducible refine zf 101 rfl ?_); refine g1 (some 6) Try.func101 #[.pointer (some ⟨g, 0, none⟩), .int .i64 40] ?_; (with_reducible refine (spec_l01Next.calls g s0_0 s0_1 s0_2 40 t370 t371 t372 w0 _ ?side1 ?side2 A3.out).mono ?_); (case side1 => exact IsS127.a); (case side2 => exact IsS127.b); rintro e w51 ⟨rfl, hi, hb, hk⟩; refine ⟨_, rfl, ?_⟩; replace BK368 := kb hk BK368 NB368_0; replace BK369 := kb hk BK369 NB369_0; replace HK := Aside0.mk (KeepBut.trans (kl) hk (.inl rfl)); replace HI0 := Aside0.mk (hi); replace HB := Aside0.mk (hb); (try clear hb hk); obtain ⟨hnb52, hnc52⟩ := zn NB368_369; have hnb53 := NB368_0.out; have hnc53 := NB0_368.out; obtain ⟨hcz54_0, hcz54_1, hcz54_2, hfz54_0, hfz54_1, hfz54_2⟩ := cq3 BK368; have hnb55 := NB369_0.out; have hnc55 := NB0_369.out; obtain ⟨hcz56_0, hcz56_1, hcz56_2, hfz56_0, hfz56_1, hfz56_2⟩ := cq3 BK369))
    refine bodyPost_ret (results_cell_row rfl _ _ gb369 27 #[.int .i64 a1_0, .int .i64 a1_1, .int .i64 a1_2] (0, 0) _ rfl (bp) Try.underlying27 rfl (by kernel_rfl)) rfl ?_
    exact ⟨er, IsS127.a, IsS127.b, kl⟩

end Go.Proofs.Ytpmepopagapeiaa.PFnMedians

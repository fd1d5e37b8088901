-- Printed by the kit's print and repaired by a program of this session.
import Derived.Test.YtpmepopagapeiaaPFnBallSumsx0
import Derived.Test.YtpmepopagapeiaaPFnBallSumsx2
import Derived.Test.YtpmepopagapeiaaPFnBallSumsx3
import Derived.Test.YtpmepopagapeiaaPFnBallSumsx6
import Derived.Test.YtpmepopagapeiaaPFnBallSumsx7
namespace Go.Proofs.Ytpmepopagapeiaa.PFnBallSums
open Go.RowKit Go.Proofs.YtpmepopagapeiaaW.PrintWords Go.Proofs.YtpmepopagapeiaaW.PrintLast Go.Proofs.YtpmepopagapeiaaW.PrintMore
attribute [local go_sem] max2_int min2_int max_two min_two max_three min_three max_four min_four   -- for this text's walks alone
set_option linter.unusedVariables false
set_option linter.unusedSimpArgs false

/-! ### spec_MultiplyBall: function 27 -/
mutual
def spec_MultiplyBall.l0 : Nat → Int → Int → Int → Int → Int → Int → Int → Option (Int × Int × Int × Int)
 | 0, _, _, _, _, _, _, _ => none
 | k + 1, x0, x2, x9, x10, x374000, x374001, x374002 => if x2 > 0 then (if x10 > 1 then (if x0 = 0 then (none) else (spec_MultiplyBall.l0 k x0 (wrap64 (x2 - 1)) x9 (wrap64 (Int.tdiv x10 x0)) (wrap64 (x374000 + 1)) x374001 x374002)) else (spec_MultiplyBall.l0 k x0 (wrap64 (x2 - 1)) (wrap64 (x9 * x0)) x10 (wrap64 (x374000 + 1)) x374001 x374002)) else (spec_MultiplyBall.l1 k x0 x2 x9 x10 x374000 x374001 x374002)
def spec_MultiplyBall.l1 : Nat → Int → Int → Int → Int → Int → Int → Int → Option (Int × Int × Int × Int)
 | 0, _, _, _, _, _, _, _ => none
 | k + 1, x0, x2, x9, x10, x374000, x374001, x374002 => if x2 < 0 then (spec_MultiplyBall.l1 k x0 (wrap64 (x2 + 1)) x9 (wrap64 (x10 * x0)) (wrap64 (x374000 - 1)) x374001 x374002) else ((spec_l01Of.f k x0 x9 x10 x374000).bind fun bt382 => (if bt382.2.2.2 = true then (some (bt382.1, bt382.2.1, bt382.2.2.1, 0)) else (some (0, 0, 0, 3))))
end
def spec_MultiplyBall.f (k : Nat) (a0 : Int) (a1_0 : Int) (a1_1 : Int) (a1_2 : Int) (a2 : Int) : Option (Int × Int × Int × Int) := (spec_l01Code.f k a0 (([(⟨a1_0, a1_1, a1_2⟩ : S27)] : List (S27)))).bind fun t378 => (if t378 = 0 then ((spec_l01In.f a2 (-20) 20).bind fun t379 => (if t379 = true then ((spec_l01In.f (wrap64 (a1_0 + a2)) (-6) 6).bind fun t380 => (if t380 = true then ((spec_l01Power.f k a0 a1_2).bind fun t381 => (spec_MultiplyBall.l0 k a0 a2 a1_1 t381 a1_0 a1_1 a1_2)) else (some (0, 0, 0, 3)))) else (some (0, 0, 0, 2)))) else (some (0, 0, 0, t378)))
theorem spec_MultiplyBall.mono_l : ∀ k, (∀ y0 y1 y2 y3 y4 y5 y6, LeO (spec_MultiplyBall.l0 k y0 y1 y2 y3 y4 y5 y6) (spec_MultiplyBall.l0 (k + 1) y0 y1 y2 y3 y4 y5 y6)) ∧ (∀ y0 y1 y2 y3 y4 y5 y6, LeO (spec_MultiplyBall.l1 k y0 y1 y2 y3 y4 y5 y6) (spec_MultiplyBall.l1 (k + 1) y0 y1 y2 y3 y4 y5 y6))
 | 0 => ⟨fun _ _ _ _ _ _ _ r h => by simp [spec_MultiplyBall.l0] at h, fun _ _ _ _ _ _ _ r h => by simp [spec_MultiplyBall.l1] at h⟩
 | k + 1 => by
  obtain ⟨ih0, ih1⟩ := spec_MultiplyBall.mono_l k
  refine ⟨?_, ?_⟩
  ·intro y0 y1 y2 y3 y4 y5 y6
   unfold spec_MultiplyBall.l0
   repeat' first
   | (with_reducible exact ih0 _ _ _ _ _ _ _)
   | (with_reducible exact ih1 _ _ _ _ _ _ _)
   | (with_reducible exact spec_l01Code.mono _ _ _)
   | (with_reducible exact spec_l01Of.mono _ _ _ _ _)
   | (with_reducible exact spec_l01Power.mono _ _ _)
   | (with_reducible exact LeO.refl _)
   | (with_reducible exact LeO.none _)
   | (with_reducible refine LeO.ite ?_ ?_)
   | (with_reducible refine LeO.bind ?_ (fun _ => ?_))
   | refine LeO.ite ?_ ?_
   | refine LeO.bind ?_ (fun _ => ?_)
  ·intro y0 y1 y2 y3 y4 y5 y6
   unfold spec_MultiplyBall.l1
   repeat' first
   | (with_reducible exact ih0 _ _ _ _ _ _ _)
   | (with_reducible exact ih1 _ _ _ _ _ _ _)
   | (with_reducible exact spec_l01Code.mono _ _ _)
   | (with_reducible exact spec_l01Of.mono _ _ _ _ _)
   | (with_reducible exact spec_l01Power.mono _ _ _)
   | (with_reducible exact LeO.refl _)
   | (with_reducible exact LeO.none _)
   | (with_reducible refine LeO.ite ?_ ?_)
   | (with_reducible refine LeO.bind ?_ (fun _ => ?_))
   | refine LeO.ite ?_ ?_
   | refine LeO.bind ?_ (fun _ => ?_)
theorem spec_MultiplyBall.mono : ∀ a0 a1 a2 a3 a4 k, LeO (spec_MultiplyBall.f k a0 a1 a2 a3 a4) (spec_MultiplyBall.f (k + 1) a0 a1 a2 a3 a4) := by
 intro a0 a1 a2 a3 a4 k
 obtain ⟨ih0, ih1⟩ := spec_MultiplyBall.mono_l k
 unfold spec_MultiplyBall.f
 repeat' first
   | (with_reducible exact ih0 _ _ _ _ _ _ _)
   | (with_reducible exact ih1 _ _ _ _ _ _ _)
   | (with_reducible exact spec_l01Code.mono _ _ _)
   | (with_reducible exact spec_l01Of.mono _ _ _ _ _)
   | (with_reducible exact spec_l01Power.mono _ _ _)
   | (with_reducible exact LeO.refl _)
   | (with_reducible exact LeO.none _)
   | (with_reducible refine LeO.ite ?_ ?_)
   | (with_reducible refine LeO.bind ?_ (fun _ => ?_))
   | refine LeO.ite ?_ ?_
   | refine LeO.bind ?_ (fun _ => ?_)
set_option maxHeartbeats 8000000 in
set_option maxRecDepth 100000 in
theorem spec_MultiplyBall.calls (k : Nat) (a0 : Int) (a1_0 : Int) (a1_1 : Int) (a1_2 : Int) (a2 : Int) (r1 : Int) (r2 : Int) (r3 : Int) (r4 : Int) (w : World) (h : spec_MultiplyBall.f k a0 a1_0 a1_1 a1_2 a2 = some (r1, r2, r3, r4)) :
  Calls Try.prog 27 #[.int .i64 a0, .agg #[.int .i64 a1_0, .int .i64 a1_1, .int .i64 a1_2], .int .i64 a2] w fun e w' => e = .returned (.tuple #[.agg #[.int .i64 r1, .int .i64 r2, .int .i64 r3], .int .i64 r4]) ∧ Below w.heap.size w w' := by
 have hu27 := Try.underlying27
 have HB := Aside0.mk (Below.refl w.heap.size w)
 have H : ((spec_l01Code.f k a0 (([(⟨a1_0, a1_1, a1_2⟩ : S27)] : List (S27)))).bind fun t378 => (if t378 = 0 then ((spec_l01In.f a2 (-20) 20).bind fun t379 => (if t379 = true then ((spec_l01In.f (wrap64 (a1_0 + a2)) (-6) 6).bind fun t380 => (if t380 = true then ((spec_l01Power.f k a0 a1_2).bind fun t381 => (spec_MultiplyBall.l0 k a0 a2 a1_1 t381 a1_0 a1_1 a1_2)) else (some (0, 0, 0, 3)))) else (some (0, 0, 0, 2)))) else (some (0, 0, 0, t378)))) = some (r1, r2, r3, r4) := h
 clear h
 obtain ⟨y375, hy375⟩ : ∃ y_ : List (S27), y_ = (([(⟨a1_0, a1_1, a1_2⟩ : S27)] : List (S27))) := ⟨_, rfl⟩
 replace H : ((spec_l01Code.f k a0 y375).bind fun t378 => (if t378 = 0 then ((spec_l01In.f a2 (-20) 20).bind fun t379 => (if t379 = true then ((spec_l01In.f (wrap64 (a1_0 + a2)) (-6) 6).bind fun t380 => (if t380 = true then ((spec_l01Power.f k a0 a1_2).bind fun t381 => (spec_MultiplyBall.l0 k a0 a2 a1_1 t381 a1_0 a1_1 a1_2)) else (some (0, 0, 0, 3)))) else (some (0, 0, 0, 2)))) else (some (0, 0, 0, t378)))) = some (r1, r2, r3, r4) := by first | (rw [hy375]; with_reducible exact H) | (have H2_ := (Option.bind_some _ _).symm.trans H; rw [hy375]; with_reducible exact H2_) | (have H2_ := (Option.bind_some _ _).symm.trans H; with_reducible exact H2_) | with_reducible exact H | (rw [hy375]; exact H) | exact H
 have Ny375 := Aside0.mk hy375
 clear hy375
 replace H := Option.bind_eq_some_iff.mp H
 obtain ⟨t378, A40, H⟩ := H
 replace H : (if t378 = 0 then ((spec_l01In.f a2 (-20) 20).bind fun t379 => (if t379 = true then ((spec_l01In.f (wrap64 (a1_0 + a2)) (-6) 6).bind fun t380 => (if t380 = true then ((spec_l01Power.f k a0 a1_2).bind fun t381 => (spec_MultiplyBall.l0 k a0 a2 a1_1 t381 a1_0 a1_1 a1_2)) else (some (0, 0, 0, 3)))) else (some (0, 0, 0, 2)))) else (some (0, 0, 0, t378))) = some (r1, r2, r3, r4) := H
 have A4 := Aside0.mk A40
 clear A40
 by_cases c5 : t378 = 0
 ·rw [if_pos c5] at H
  have c5b0 : (t378 == 0) = true := beq_iff_eq.mpr c5
  have c5b1 : (t378 != 0) = false := bne_eq_false_iff_eq.mpr c5
  clear c5
  replace H := Option.bind_eq_some_iff.mp H
  obtain ⟨t379, A60, H⟩ := H
  replace H : (if t379 = true then ((spec_l01In.f (wrap64 (a1_0 + a2)) (-6) 6).bind fun t380 => (if t380 = true then ((spec_l01Power.f k a0 a1_2).bind fun t381 => (spec_MultiplyBall.l0 k a0 a2 a1_1 t381 a1_0 a1_1 a1_2)) else (some (0, 0, 0, 3)))) else (some (0, 0, 0, 2))) = some (r1, r2, r3, r4) := H
  have A6 := Aside0.mk A60
  clear A60
  by_cases c7 : t379 = true
  ·subst c7
   have H1 : ((spec_l01In.f (wrap64 (a1_0 + a2)) (-6) 6).bind fun t380 => (if t380 = true then ((spec_l01Power.f k a0 a1_2).bind fun t381 => (spec_MultiplyBall.l0 k a0 a2 a1_1 t381 a1_0 a1_1 a1_2)) else (some (0, 0, 0, 3)))) = some (r1, r2, r3, r4) := by rw [if_pos rfl] at H; exact H
   clear H
   have H := H1
   clear H1
   replace H := Option.bind_eq_some_iff.mp H
   obtain ⟨t380, A80, H⟩ := H
   replace H : (if t380 = true then ((spec_l01Power.f k a0 a1_2).bind fun t381 => (spec_MultiplyBall.l0 k a0 a2 a1_1 t381 a1_0 a1_1 a1_2)) else (some (0, 0, 0, 3))) = some (r1, r2, r3, r4) := H
   have A8 := Aside0.mk A80
   clear A80
   by_cases c9 : t380 = true
   ·subst c9
    have H1 : ((spec_l01Power.f k a0 a1_2).bind fun t381 => (spec_MultiplyBall.l0 k a0 a2 a1_1 t381 a1_0 a1_1 a1_2)) = some (r1, r2, r3, r4) := by rw [if_pos rfl] at H; exact H
    clear H
    have H := H1
    clear H1
    replace H := Option.bind_eq_some_iff.mp H
    obtain ⟨t381, A100, H⟩ := H
    replace H : (spec_MultiplyBall.l0 k a0 a2 a1_1 t381 a1_0 a1_1 a1_2) = some (r1, r2, r3, r4) := H
    have A10 := Aside0.mk A100
    clear A100
    have H' := Aside0.mk H
    clear H
    go_enter Try.func27, Try.ntmps27
    go_wp2_with (first | ((with_reducible refine gate_dst (N := 4) rfl ?_); refine bx (N := 4) (cs := #[.int .i64 a1_0, .int .i64 a1_1, .int .i64 a1_2]) (t := 27) ?_; intro gb373 hg w11 hbox hb; have BK373 := Aside0.mk (hbox); have GW373 := sg hg; have GE373 := sg hg; replace HB := bs hb; clear hb hbox hg) | ((with_reducible refine gate_dst (N := 6) rfl ?_); refine bx (N := 6) (cs := #[.int .i64 0, .int .i64 0, .int .i64 0]) (t := 27) ?_; intro gb374 hg w12 hbox hb; have BK374 := Aside0.mk (hbox); have GW374 := sg hg; have GE374 := sg hg; have NB373_374 := nl hg BK373; have NB374_373 := ng hg BK373; replace BK373 := bb BK373 hb; replace HB := bs hb; clear hb hbox hg; have hnb13 := NB373_374.out; have hnc13 := NB374_373.out; obtain ⟨hcz14_0, hcz14_1, hcz14_2, hfz14_0, hfz14_1, hfz14_2⟩ := c3 BK373) | ((with_reducible refine gate_dst (N := 15) rfl ?_); refine Kd.R_lit k27 _ 27 ?hg (N := 15) ?hd (xs := ([(⟨a1_0, a1_1, a1_2⟩ : S27)] : List (S27))) (inner := [.int .i64 a1_0, .int .i64 a1_1, .int .i64 a1_2]) (ok := fun _ => True) (okp := fun _ => True) ?hr ?hp (fun _ hk => hk) trivial (Below.refl _ _) (Nat.le_refl _) (by simp) ?_; (case hd => rfl); (case hg => rfl); (case hr => first | (go_simp; done) | (go_simp; rfl)); (case hp => exact (Reps.c3 (show Kd.M k27 _ _ _ (⟨a1_0, a1_1, a1_2⟩ : S27) [.int .i64 a1_0, .int .i64 a1_1, .int .i64 a1_2] from (k27_mkM _ _ _ (⟨a1_0, a1_1, a1_2⟩ : S27) )) (Reps.none _ _))); intro v376 w15 ho16 hb hg_ hnew_; clear hg_ hnew_; (first | rw [← Ny375.out] at ho16 | (simp only [Int.reduceToNat] at ho16; rw [← Ny375.out] at ho16)); have HO377 := Aside0.mk (Kd.R_lower (Kd.R_newB (Kd.R_newB ho16 (g := gb373) (o := .cells #[.int .i64 a1_0, .int .i64 a1_1, .int .i64 a1_2] 27 (0, 0)) (be BK373)) (g := gb374) (o := .cells #[.int .i64 0, .int .i64 0, .int .i64 0] 27 (0, 0)) (be BK374)) (below_size (by repeat (first | (with_reducible first | exact HB.out | apply below_alloc | apply pw_below_drewN | apply below_drew1 | refine below_set ?_ GE373.out | refine below_set ?_ GE374.out) | exact HB.out)))); replace BK373 := bb BK373 hb; replace BK374 := bb BK374 hb; replace HB := bs hb; clear hb ho16; obtain ⟨Ao17, co17, eo17⟩ := Kd.R_slice HO377.out; subst eo17) | (go_at_call 81; (with_reducible refine (spec_l01Code.calls k a0 _ _ y375 t378 _ ?side1 ?side2 A4.out).mono ?_); (case side1 => repeat (first | exact (Kd.R_reads' HO377.out).2.2 | (with_reducible refine Kd.C_alloc ?_ _) | (with_reducible refine Kd.C_drewN ?_ _) | (with_reducible refine Kd.C_drew ?_))); (case side2 => exact (Kd.R_reads' HO377.out).2.1); rintro e w18 ⟨rfl, hb⟩; replace HO377 := Aside0.mk (Kd.R_below (by (with_reducible repeat (first | apply Kd.R_alloc | apply Kd.R_drewN | apply Kd.R_drew)); exact HO377.out) hb); replace BK373 := bb BK373 hb; replace BK374 := bb BK374 hb; replace HB := bs hb; (try clear hb); (try clear hb2); (try clear hk); (try clear hi)) | (go_at_call 88; (with_reducible refine (spec_l01In.calls a2 (-20) 20 true _ A6.out).mono ?_); rintro e w' ⟨rfl, ⟨nd, rfl⟩⟩; (try first | exact ⟨rfl, _, World.drewN_drewN _ _ _⟩ | exact ⟨rfl, _, Eq.trans (World.drewN_drewN _ _ _) (congrArg (World.drewN _) (Nat.add_assoc _ _ _))⟩); obtain ⟨hcz19_0, hcz19_1, hcz19_2, hfz19_0, hfz19_1, hfz19_2⟩ := c3 BK373) | (go_at_call 88; (with_reducible refine (spec_l01In.calls (wrap64 (a1_0 + a2)) (-6) 6 true _ A8.out).mono ?_); rintro e w' ⟨rfl, ⟨nd, rfl⟩⟩; (try first | exact ⟨rfl, _, World.drewN_drewN _ _ _⟩ | exact ⟨rfl, _, Eq.trans (World.drewN_drewN _ _ _) (congrArg (World.drewN _) (Nat.add_assoc _ _ _))⟩)) | (go_at_call 96; (with_reducible refine (spec_l01Power.calls k a0 a1_2 t381 _ A10.out).mono ?_); rintro e w' ⟨rfl, ⟨nd, rfl⟩⟩; (try first | exact ⟨rfl, _, World.drewN_drewN _ _ _⟩ | exact ⟨rfl, _, Eq.trans (World.drewN_drewN _ _ _) (congrArg (World.drewN _) (Nat.add_assoc _ _ _))⟩)))
    repeat (go_quiet (first | ((with_reducible refine gate_dst (N := 4) rfl ?_); refine bx (N := 4) (cs := #[.int .i64 a1_0, .int .i64 a1_1, .int .i64 a1_2]) (t := 27) ?_; intro gb373 hg w11 hbox hb; have BK373 := Aside0.mk (hbox); have GW373 := sg hg; have GE373 := sg hg; replace HB := bs hb; clear hb hbox hg) | ((with_reducible refine gate_dst (N := 6) rfl ?_); refine bx (N := 6) (cs := #[.int .i64 0, .int .i64 0, .int .i64 0]) (t := 27) ?_; intro gb374 hg w12 hbox hb; have BK374 := Aside0.mk (hbox); have GW374 := sg hg; have GE374 := sg hg; have NB373_374 := nl hg BK373; have NB374_373 := ng hg BK373; replace BK373 := bb BK373 hb; replace HB := bs hb; clear hb hbox hg; have hnb13 := NB373_374.out; have hnc13 := NB374_373.out; obtain ⟨hcz14_0, hcz14_1, hcz14_2, hfz14_0, hfz14_1, hfz14_2⟩ := c3 BK373) | ((with_reducible refine gate_dst (N := 15) rfl ?_); refine Kd.R_lit k27 _ 27 ?hg (N := 15) ?hd (xs := ([(⟨a1_0, a1_1, a1_2⟩ : S27)] : List (S27))) (inner := [.int .i64 a1_0, .int .i64 a1_1, .int .i64 a1_2]) (ok := fun _ => True) (okp := fun _ => True) ?hr ?hp (fun _ hk => hk) trivial (Below.refl _ _) (Nat.le_refl _) (by simp) ?_; (case hd => rfl); (case hg => rfl); (case hr => first | (go_simp; done) | (go_simp; rfl)); (case hp => exact (Reps.c3 (show Kd.M k27 _ _ _ (⟨a1_0, a1_1, a1_2⟩ : S27) [.int .i64 a1_0, .int .i64 a1_1, .int .i64 a1_2] from (k27_mkM _ _ _ (⟨a1_0, a1_1, a1_2⟩ : S27) )) (Reps.none _ _))); intro v376 w15 ho16 hb hg_ hnew_; clear hg_ hnew_; (first | rw [← Ny375.out] at ho16 | (simp only [Int.reduceToNat] at ho16; rw [← Ny375.out] at ho16)); have HO377 := Aside0.mk (Kd.R_lower (Kd.R_newB (Kd.R_newB ho16 (g := gb373) (o := .cells #[.int .i64 a1_0, .int .i64 a1_1, .int .i64 a1_2] 27 (0, 0)) (be BK373)) (g := gb374) (o := .cells #[.int .i64 0, .int .i64 0, .int .i64 0] 27 (0, 0)) (be BK374)) (below_size (by repeat (first | (with_reducible first | exact HB.out | apply below_alloc | apply pw_below_drewN | apply below_drew1 | refine below_set ?_ GE373.out | refine below_set ?_ GE374.out) | exact HB.out)))); replace BK373 := bb BK373 hb; replace BK374 := bb BK374 hb; replace HB := bs hb; clear hb ho16; obtain ⟨Ao17, co17, eo17⟩ := Kd.R_slice HO377.out; subst eo17) | (go_at_call 81; (with_reducible refine (spec_l01Code.calls k a0 _ _ y375 t378 _ ?side1 ?side2 A4.out).mono ?_); (case side1 => repeat (first | exact (Kd.R_reads' HO377.out).2.2 | (with_reducible refine Kd.C_alloc ?_ _) | (with_reducible refine Kd.C_drewN ?_ _) | (with_reducible refine Kd.C_drew ?_))); (case side2 => exact (Kd.R_reads' HO377.out).2.1); rintro e w18 ⟨rfl, hb⟩; replace HO377 := Aside0.mk (Kd.R_below (by (with_reducible repeat (first | apply Kd.R_alloc | apply Kd.R_drewN | apply Kd.R_drew)); exact HO377.out) hb); replace BK373 := bb BK373 hb; replace BK374 := bb BK374 hb; replace HB := bs hb; (try clear hb); (try clear hb2); (try clear hk); (try clear hi)) | (go_at_call 88; (with_reducible refine (spec_l01In.calls a2 (-20) 20 true _ A6.out).mono ?_); rintro e w' ⟨rfl, ⟨nd, rfl⟩⟩; (try first | exact ⟨rfl, _, World.drewN_drewN _ _ _⟩ | exact ⟨rfl, _, Eq.trans (World.drewN_drewN _ _ _) (congrArg (World.drewN _) (Nat.add_assoc _ _ _))⟩); obtain ⟨hcz19_0, hcz19_1, hcz19_2, hfz19_0, hfz19_1, hfz19_2⟩ := c3 BK373) | (go_at_call 88; (with_reducible refine (spec_l01In.calls (wrap64 (a1_0 + a2)) (-6) 6 true _ A8.out).mono ?_); rintro e w' ⟨rfl, ⟨nd, rfl⟩⟩; (try first | exact ⟨rfl, _, World.drewN_drewN _ _ _⟩ | exact ⟨rfl, _, Eq.trans (World.drewN_drewN _ _ _) (congrArg (World.drewN _) (Nat.add_assoc _ _ _))⟩)) | (go_at_call 96; (with_reducible refine (spec_l01Power.calls k a0 a1_2 t381 _ A10.out).mono ?_); rintro e w' ⟨rfl, ⟨nd, rfl⟩⟩; (try first | exact ⟨rfl, _, World.drewN_drewN _ _ _⟩ | exact ⟨rfl, _, Eq.trans (World.drewN_drewN _ _ _) (congrArg (World.drewN _) (Nat.add_assoc _ _ _))⟩))); try go_wp2_with (first | ((with_reducible refine gate_dst (N := 4) rfl ?_); refine bx (N := 4) (cs := #[.int .i64 a1_0, .int .i64 a1_1, .int .i64 a1_2]) (t := 27) ?_; intro gb373 hg w11 hbox hb; have BK373 := Aside0.mk (hbox); have GW373 := sg hg; have GE373 := sg hg; replace HB := bs hb; clear hb hbox hg) | ((with_reducible refine gate_dst (N := 6) rfl ?_); refine bx (N := 6) (cs := #[.int .i64 0, .int .i64 0, .int .i64 0]) (t := 27) ?_; intro gb374 hg w12 hbox hb; have BK374 := Aside0.mk (hbox); have GW374 := sg hg; have GE374 := sg hg; have NB373_374 := nl hg BK373; have NB374_373 := ng hg BK373; replace BK373 := bb BK373 hb; replace HB := bs hb; clear hb hbox hg; have hnb13 := NB373_374.out; have hnc13 := NB374_373.out; obtain ⟨hcz14_0, hcz14_1, hcz14_2, hfz14_0, hfz14_1, hfz14_2⟩ := c3 BK373) | ((with_reducible refine gate_dst (N := 15) rfl ?_); refine Kd.R_lit k27 _ 27 ?hg (N := 15) ?hd (xs := ([(⟨a1_0, a1_1, a1_2⟩ : S27)] : List (S27))) (inner := [.int .i64 a1_0, .int .i64 a1_1, .int .i64 a1_2]) (ok := fun _ => True) (okp := fun _ => True) ?hr ?hp (fun _ hk => hk) trivial (Below.refl _ _) (Nat.le_refl _) (by simp) ?_; (case hd => rfl); (case hg => rfl); (case hr => first | (go_simp; done) | (go_simp; rfl)); (case hp => exact (Reps.c3 (show Kd.M k27 _ _ _ (⟨a1_0, a1_1, a1_2⟩ : S27) [.int .i64 a1_0, .int .i64 a1_1, .int .i64 a1_2] from (k27_mkM _ _ _ (⟨a1_0, a1_1, a1_2⟩ : S27) )) (Reps.none _ _))); intro v376 w15 ho16 hb hg_ hnew_; clear hg_ hnew_; (first | rw [← Ny375.out] at ho16 | (simp only [Int.reduceToNat] at ho16; rw [← Ny375.out] at ho16)); have HO377 := Aside0.mk (Kd.R_lower (Kd.R_newB (Kd.R_newB ho16 (g := gb373) (o := .cells #[.int .i64 a1_0, .int .i64 a1_1, .int .i64 a1_2] 27 (0, 0)) (be BK373)) (g := gb374) (o := .cells #[.int .i64 0, .int .i64 0, .int .i64 0] 27 (0, 0)) (be BK374)) (below_size (by repeat (first | (with_reducible first | exact HB.out | apply below_alloc | apply pw_below_drewN | apply below_drew1 | refine below_set ?_ GE373.out | refine below_set ?_ GE374.out) | exact HB.out)))); replace BK373 := bb BK373 hb; replace BK374 := bb BK374 hb; replace HB := bs hb; clear hb ho16; obtain ⟨Ao17, co17, eo17⟩ := Kd.R_slice HO377.out; subst eo17) | (go_at_call 81; (with_reducible refine (spec_l01Code.calls k a0 _ _ y375 t378 _ ?side1 ?side2 A4.out).mono ?_); (case side1 => repeat (first | exact (Kd.R_reads' HO377.out).2.2 | (with_reducible refine Kd.C_alloc ?_ _) | (with_reducible refine Kd.C_drewN ?_ _) | (with_reducible refine Kd.C_drew ?_))); (case side2 => exact (Kd.R_reads' HO377.out).2.1); rintro e w18 ⟨rfl, hb⟩; replace HO377 := Aside0.mk (Kd.R_below (by (with_reducible repeat (first | apply Kd.R_alloc | apply Kd.R_drewN | apply Kd.R_drew)); exact HO377.out) hb); replace BK373 := bb BK373 hb; replace BK374 := bb BK374 hb; replace HB := bs hb; (try clear hb); (try clear hb2); (try clear hk); (try clear hi)) | (go_at_call 88; (with_reducible refine (spec_l01In.calls a2 (-20) 20 true _ A6.out).mono ?_); rintro e w' ⟨rfl, ⟨nd, rfl⟩⟩; (try first | exact ⟨rfl, _, World.drewN_drewN _ _ _⟩ | exact ⟨rfl, _, Eq.trans (World.drewN_drewN _ _ _) (congrArg (World.drewN _) (Nat.add_assoc _ _ _))⟩); obtain ⟨hcz19_0, hcz19_1, hcz19_2, hfz19_0, hfz19_1, hfz19_2⟩ := c3 BK373) | (go_at_call 88; (with_reducible refine (spec_l01In.calls (wrap64 (a1_0 + a2)) (-6) 6 true _ A8.out).mono ?_); rintro e w' ⟨rfl, ⟨nd, rfl⟩⟩; (try first | exact ⟨rfl, _, World.drewN_drewN _ _ _⟩ | exact ⟨rfl, _, Eq.trans (World.drewN_drewN _ _ _) (congrArg (World.drewN _) (Nat.add_assoc _ _ _))⟩)) | (go_at_call 96; (with_reducible refine (spec_l01Power.calls k a0 a1_2 t381 _ A10.out).mono ?_); rintro e w' ⟨rfl, ⟨nd, rfl⟩⟩; (try first | exact ⟨rfl, _, World.drewN_drewN _ _ _⟩ | exact ⟨rfl, _, Eq.trans (World.drewN_drewN _ _ _) (congrArg (World.drewN _) (Nat.add_assoc _ _ _))⟩))))
    go_loopg [2, 9, 10] k (fun kq v2 v9 v10 w' => ∃ (x2_1 : Int) (x9_1 : Int) (x10_1 : Int) (x374000_1 : Int), v2 = .int .i64 x2_1 ∧ v9 = .int .i64 x9_1 ∧ v10 = .int .i64 x10_1 ∧ Aside0 (spec_MultiplyBall.l0 kq a0 x2_1 x9_1 x10_1 x374000_1 a1_1 a1_2 = some (r1, r2, r3, r4)) ∧ Aside0 (kq ≤ k) ∧ Aside0 (w'.heap[gb373]? = some (.cells #[.int .i64 x374000_1, .int .i64 a1_1, .int .i64 a1_2] 27 (0, 0))) ∧ Aside0 (w'.heap[gb374]? = some (.cells #[.int .i64 0, .int .i64 0, .int .i64 0] 27 (0, 0))) ∧ Aside0 (Below w.heap.size w w'))
    case atStart => exact ⟨(a2), (a1_1), (t381), (a1_0), (by first | rfl | (simp; done) | (simp [*]; done)), (by first | rfl | (simp; done) | (simp [*]; done)), (by first | rfl | (simp; done) | (simp [*]; done)), H', ⟨Nat.le_refl _⟩, ⟨be BK373⟩, ⟨be BK374⟩, ⟨by repeat (first | (with_reducible first | exact HB.out | apply below_alloc | apply pw_below_drewN | apply below_drew1 | refine below_set ?_ GE373.out | refine below_set ?_ GE374.out) | exact HB.out)⟩⟩
    case round =>
     clear H'
     try clear c1
     try clear c2
     try clear p2
     try clear c3
     try clear c5
     try clear c5b0
     try clear c5b1
     try clear p6
     try clear c7
     try clear c9
     try clear c13
     try clear hcz14_0 hcz14_1 hcz14_2
     try clear hcz19_0 hcz19_1 hcz19_2
     try clear hfz14_0 hfz14_1 hfz14_2
     try clear hfz19_0 hfz19_1 hfz19_2
     obtain ⟨x2_1, x9_1, x10_1, x374000_1, rfl, rfl, rfl, HA, HK1, BK373, BK374, HB⟩ := hrel
     cases gk with
     | zero => exact absurd HA.out (by simp [spec_MultiplyBall.l0])
     | succ k1 =>
      have H := HA.out
      clear HA
      simp only [spec_MultiplyBall.l0] at H
      by_cases c20 : x2_1 > 0
      ·rw [if_pos c20] at H
       have c20b0 : decide (0 < x2_1) = true := decide_eq_true c20
       clear c20
       by_cases c21 : x10_1 > 1
       ·rw [if_pos c21] at H
        have c21b0 : decide (1 < x10_1) = true := decide_eq_true c21
        clear c21
        by_cases c22 : a0 = 0
        ·rw [if_pos c22] at H
         exact absurd H (by simp)
        ·rw [if_neg c22] at H
         have c22b0 : (a0 == 0) = false := beq_eq_false_iff_ne.mpr c22
         have c22b1 : (a0 != 0) = true := bne_iff_ne.mpr c22
         have H' := Aside0.mk H
         clear H
         have hnb23 := NB373_374.out
         have hnc23 := NB374_373.out
         have hcz24_0 : wr.cell? ⟨gb373, 0, none⟩ = some (.int .i64 x374000_1) := (blk_cell BK373.out 0).trans rfl
         have hcz24_1 : wr.cell? ⟨gb373, 1, none⟩ = some (.int .i64 a1_1) := (blk_cell BK373.out 1).trans rfl
         have hcz24_2 : wr.cell? ⟨gb373, 2, none⟩ = some (.int .i64 a1_2) := (blk_cell BK373.out 2).trans rfl
         have hfz24_0 := blk_frozen BK373.out 0
         have hfz24_1 := blk_frozen BK373.out 1
         have hfz24_2 := blk_frozen BK373.out 2
         go_wp2
         repeat (go_quiet (fail); try go_wp2)
         go_roundg k1
         case measure => have := HK1.out; omega
         case rel => exact ⟨(wrap64 (x2_1 - 1)), (x9_1), (wrap64 (Int.tdiv x10_1 a0)), (wrap64 (x374000_1 + 1)), (by first | rfl | (simp; done) | (simp [*]; done)), (by first | rfl | (simp; done) | (simp [*]; done)), (by first | rfl | (simp; done) | (simp [*]; done)), H', ⟨by have := HK1.out; omega⟩, ⟨by (with_reducible repeat (first | apply bn | apply bd | apply ba)); refine blk_put (cs := #[.int .i64 x374000_1, .int .i64 a1_1, .int .i64 a1_2]) ?_ 0 _ rfl; (with_reducible repeat (first | apply bn | apply bd | apply ba)); exact BK373.out⟩, ⟨by (with_reducible repeat (first | apply bn | apply bd | apply ba)); refine blk_far ?_ NB374_373.out _; (with_reducible repeat (first | apply bn | apply bd | apply ba)); exact BK374.out⟩, ⟨by repeat (first | (with_reducible first | exact HB.out | apply below_alloc | apply pw_below_drewN | apply below_drew1 | refine below_set ?_ GE373.out | refine below_set ?_ GE374.out) | exact HB.out)⟩⟩
       ·rw [if_neg c21] at H
        have c21b0 : decide (1 < x10_1) = false := decide_eq_false c21
        clear c21
        have H' := Aside0.mk H
        clear H
        have hnb25 := NB373_374.out
        have hnc25 := NB374_373.out
        have hcz26_0 : wr.cell? ⟨gb373, 0, none⟩ = some (.int .i64 x374000_1) := (blk_cell BK373.out 0).trans rfl
        have hcz26_1 : wr.cell? ⟨gb373, 1, none⟩ = some (.int .i64 a1_1) := (blk_cell BK373.out 1).trans rfl
        have hcz26_2 : wr.cell? ⟨gb373, 2, none⟩ = some (.int .i64 a1_2) := (blk_cell BK373.out 2).trans rfl
        have hfz26_0 := blk_frozen BK373.out 0
        have hfz26_1 := blk_frozen BK373.out 1
        have hfz26_2 := blk_frozen BK373.out 2
        go_wp2
        repeat (go_quiet (fail); try go_wp2)
        go_roundg k1
        case measure => have := HK1.out; omega
        case rel => exact ⟨(wrap64 (x2_1 - 1)), (wrap64 (x9_1 * a0)), (x10_1), (wrap64 (x374000_1 + 1)), (by first | rfl | (simp; done) | (simp [*]; done)), (by first | rfl | (simp; done) | (simp [*]; done)), (by first | rfl | (simp; done) | (simp [*]; done)), H', ⟨by have := HK1.out; omega⟩, ⟨by (with_reducible repeat (first | apply bn | apply bd | apply ba)); refine blk_put (cs := #[.int .i64 x374000_1, .int .i64 a1_1, .int .i64 a1_2]) ?_ 0 _ rfl; (with_reducible repeat (first | apply bn | apply bd | apply ba)); exact BK373.out⟩, ⟨by (with_reducible repeat (first | apply bn | apply bd | apply ba)); refine blk_far ?_ NB374_373.out _; (with_reducible repeat (first | apply bn | apply bd | apply ba)); exact BK374.out⟩, ⟨by repeat (first | (with_reducible first | exact HB.out | apply below_alloc | apply pw_below_drewN | apply below_drew1 | refine below_set ?_ GE373.out | refine below_set ?_ GE374.out) | exact HB.out)⟩⟩
      ·rw [if_neg c20] at H
       have c20b0 : decide (0 < x2_1) = false := decide_eq_false c20
       clear c20
       have H' := Aside0.mk H
       clear H
       go_wp2
       repeat (go_quiet (fail); try go_wp2)
       go_loopg [2, 10] k1 (fun kq v2 v10 w' => ∃ (x2_2 : Int) (x10_2 : Int) (x374000_2 : Int), v2 = .int .i64 x2_2 ∧ v10 = .int .i64 x10_2 ∧ Aside0 (spec_MultiplyBall.l1 kq a0 x2_2 x9_1 x10_2 x374000_2 a1_1 a1_2 = some (r1, r2, r3, r4)) ∧ Aside0 (kq ≤ k1) ∧ Aside0 (w'.heap[gb373]? = some (.cells #[.int .i64 x374000_2, .int .i64 a1_1, .int .i64 a1_2] 27 (0, 0))) ∧ Aside0 (w'.heap[gb374]? = some (.cells #[.int .i64 0, .int .i64 0, .int .i64 0] 27 (0, 0))) ∧ Aside0 (Below w.heap.size w w'))
       case atStart => exact ⟨(x2_1), (x10_1), (x374000_1), (by first | rfl | (simp; done) | (simp [*]; done)), (by first | rfl | (simp; done) | (simp [*]; done)), H', ⟨Nat.le_refl _⟩, ⟨be BK373⟩, ⟨be BK374⟩, ⟨by repeat (first | (with_reducible first | exact HB.out | apply below_alloc | apply pw_below_drewN | apply below_drew1 | refine below_set ?_ GE373.out | refine below_set ?_ GE374.out) | exact HB.out)⟩⟩
       case round =>
        clear H'
        try clear c1
        try clear c2
        try clear p2
        try clear c3
        try clear c5
        try clear c5b0
        try clear c5b1
        try clear p6
        try clear c7
        try clear c9
        try clear c13
        try clear c20
        try clear c20b0
        try clear c21
        try clear c21b0
        try clear c22
        try clear c22b0
        try clear c22b1
        try clear c23
        try clear c25
        try clear hcz14_0 hcz14_1 hcz14_2
        try clear hcz19_0 hcz19_1 hcz19_2
        try clear hcz24_0 hcz24_1 hcz24_2
        try clear hcz26_0 hcz26_1 hcz26_2
        try clear hfz14_0 hfz14_1 hfz14_2
        try clear hfz19_0 hfz19_1 hfz19_2
        try clear hfz24_0 hfz24_1 hfz24_2
        try clear hfz26_0 hfz26_1 hfz26_2
        try clear p2
        try clear p6
        obtain ⟨x2_2, x10_2, x374000_2, rfl, rfl, HA, HK2, BK373, BK374, HB⟩ := hrel
        cases gk with
        | zero => exact absurd HA.out (by simp [spec_MultiplyBall.l1])
        | succ k2 =>
         have H := HA.out
         clear HA
         simp only [spec_MultiplyBall.l1] at H
         by_cases c27 : x2_2 < 0
         ·rw [if_pos c27] at H
          have c27b0 : decide (x2_2 < 0) = true := decide_eq_true c27
          clear c27
          have H' := Aside0.mk H
          clear H
          have hnb28 := NB373_374.out
          have hnc28 := NB374_373.out
          have hcz29_0 : wr.cell? ⟨gb373, 0, none⟩ = some (.int .i64 x374000_2) := (blk_cell BK373.out 0).trans rfl
          have hcz29_1 : wr.cell? ⟨gb373, 1, none⟩ = some (.int .i64 a1_1) := (blk_cell BK373.out 1).trans rfl
          have hcz29_2 : wr.cell? ⟨gb373, 2, none⟩ = some (.int .i64 a1_2) := (blk_cell BK373.out 2).trans rfl
          have hfz29_0 := blk_frozen BK373.out 0
          have hfz29_1 := blk_frozen BK373.out 1
          have hfz29_2 := blk_frozen BK373.out 2
          go_wp2
          repeat (go_quiet (fail); try go_wp2)
          go_roundg k2
          case measure => have := HK1.out; have := HK2.out; omega
          case rel => exact ⟨(wrap64 (x2_2 + 1)), (wrap64 (x10_2 * a0)), (wrap64 (x374000_2 - 1)), (by first | rfl | (simp; done) | (simp [*]; done)), (by first | rfl | (simp; done) | (simp [*]; done)), H', ⟨by have := HK1.out; have := HK2.out; omega⟩, ⟨by (with_reducible repeat (first | apply bn | apply bd | apply ba)); refine blk_put (cs := #[.int .i64 x374000_2, .int .i64 a1_1, .int .i64 a1_2]) ?_ 0 _ rfl; (with_reducible repeat (first | apply bn | apply bd | apply ba)); exact BK373.out⟩, ⟨by (with_reducible repeat (first | apply bn | apply bd | apply ba)); refine blk_far ?_ NB374_373.out _; (with_reducible repeat (first | apply bn | apply bd | apply ba)); exact BK374.out⟩, ⟨by repeat (first | (with_reducible first | exact HB.out | apply below_alloc | apply pw_below_drewN | apply below_drew1 | refine below_set ?_ GE373.out | refine below_set ?_ GE374.out) | exact HB.out)⟩⟩
         ·rw [if_neg c27] at H
          have c27b0 : decide (x2_2 < 0) = false := decide_eq_false c27
          clear c27
          replace H := Option.bind_eq_some_iff.mp H
          obtain ⟨⟨t382, t383, t384, t385⟩, A300, H⟩ := H
          replace H : (if t385 = true then (some (t382, t383, t384, 0)) else (some (0, 0, 0, 3))) = some (r1, r2, r3, r4) := H
          have A30 := Aside0.mk A300
          clear A300
          by_cases c31 : t385 = true
          ·subst c31
           have H1 : (some (t382, t383, t384, 0)) = some (r1, r2, r3, r4) := by rw [if_pos rfl] at H; exact H
           clear H
           have H := H1
           clear H1
           simp only [Option.some.injEq, Prod.mk.injEq] at H
           obtain ⟨rfl, rfl, rfl, rfl⟩ := H
           have hnb32 := NB373_374.out
           have hnc32 := NB374_373.out
           have hcz33_0 : wr.cell? ⟨gb373, 0, none⟩ = some (.int .i64 x374000_2) := (blk_cell BK373.out 0).trans rfl
           have hcz33_1 : wr.cell? ⟨gb373, 1, none⟩ = some (.int .i64 a1_1) := (blk_cell BK373.out 1).trans rfl
           have hcz33_2 : wr.cell? ⟨gb373, 2, none⟩ = some (.int .i64 a1_2) := (blk_cell BK373.out 2).trans rfl
           have hfz33_0 := blk_frozen BK373.out 0
           have hfz33_1 := blk_frozen BK373.out 1
           have hfz33_2 := blk_frozen BK373.out 2
           go_wp2_with (first | (go_at_call 97; (with_reducible refine (spec_l01Of.calls k2 a0 x9_1 x10_2 x374000_2 t382 t383 t384 true _ A30.out).mono ?_); rintro e w34 ⟨rfl, hb⟩; replace BK373 := bb BK373 hb; replace BK374 := bb BK374 hb; replace HB := bs hb; (try clear hb); (try clear hb2); (try clear hk); (try clear hi)) | ((with_reducible refine gate_dst (N := 11) rfl ?_); refine bx (N := 11) (cs := #[.int .i64 0, .int .i64 0, .int .i64 0]) (t := 27) ?_; intro gb386 hg w35 hbox hb; have BK386 := Aside0.mk (hbox); have GW386 := sg hg; have GE386 := sg hg; have NB373_386 := nl hg BK373; have NB386_373 := ng hg BK373; have NB374_386 := nl hg BK374; have NB386_374 := ng hg BK374; replace BK373 := bb BK373 hb; replace BK374 := bb BK374 hb; replace HB := bs hb; clear hb hbox hg; have hnb36 := NB386_373.out; have hnc36 := NB373_386.out; have hnb37 := NB386_374.out; have hnc37 := NB374_386.out; obtain ⟨hcz38_0, hcz38_1, hcz38_2, hfz38_0, hfz38_1, hfz38_2⟩ := c3 BK386; obtain ⟨hcz39_0, hcz39_1, hcz39_2, hfz39_0, hfz39_1, hfz39_2⟩ := c3 BK374))
           repeat (go_quiet (first | (go_at_call 97; (with_reducible refine (spec_l01Of.calls k2 a0 x9_1 x10_2 x374000_2 t382 t383 t384 true _ A30.out).mono ?_); rintro e w34 ⟨rfl, hb⟩; replace BK373 := bb BK373 hb; replace BK374 := bb BK374 hb; replace HB := bs hb; (try clear hb); (try clear hb2); (try clear hk); (try clear hi)) | ((with_reducible refine gate_dst (N := 11) rfl ?_); refine bx (N := 11) (cs := #[.int .i64 0, .int .i64 0, .int .i64 0]) (t := 27) ?_; intro gb386 hg w35 hbox hb; have BK386 := Aside0.mk (hbox); have GW386 := sg hg; have GE386 := sg hg; have NB373_386 := nl hg BK373; have NB386_373 := ng hg BK373; have NB374_386 := nl hg BK374; have NB386_374 := ng hg BK374; replace BK373 := bb BK373 hb; replace BK374 := bb BK374 hb; replace HB := bs hb; clear hb hbox hg; have hnb36 := NB386_373.out; have hnc36 := NB373_386.out; have hnb37 := NB386_374.out; have hnc37 := NB374_386.out; obtain ⟨hcz38_0, hcz38_1, hcz38_2, hfz38_0, hfz38_1, hfz38_2⟩ := c3 BK386; obtain ⟨hcz39_0, hcz39_1, hcz39_2, hfz39_0, hfz39_1, hfz39_2⟩ := c3 BK374)); try go_wp2_with (first | (go_at_call 97; (with_reducible refine (spec_l01Of.calls k2 a0 x9_1 x10_2 x374000_2 t382 t383 t384 true _ A30.out).mono ?_); rintro e w34 ⟨rfl, hb⟩; replace BK373 := bb BK373 hb; replace BK374 := bb BK374 hb; replace HB := bs hb; (try clear hb); (try clear hb2); (try clear hk); (try clear hi)) | ((with_reducible refine gate_dst (N := 11) rfl ?_); refine bx (N := 11) (cs := #[.int .i64 0, .int .i64 0, .int .i64 0]) (t := 27) ?_; intro gb386 hg w35 hbox hb; have BK386 := Aside0.mk (hbox); have GW386 := sg hg; have GE386 := sg hg; have NB373_386 := nl hg BK373; have NB386_373 := ng hg BK373; have NB374_386 := nl hg BK374; have NB386_374 := ng hg BK374; replace BK373 := bb BK373 hb; replace BK374 := bb BK374 hb; replace HB := bs hb; clear hb hbox hg; have hnb36 := NB386_373.out; have hnc36 := NB373_386.out; have hnb37 := NB386_374.out; have hnc37 := NB374_386.out; obtain ⟨hcz38_0, hcz38_1, hcz38_2, hfz38_0, hfz38_1, hfz38_2⟩ := c3 BK386; obtain ⟨hcz39_0, hcz39_1, hcz39_2, hfz39_0, hfz39_1, hfz39_2⟩ := c3 BK374)))
           refine bodyPost_ret (results_ct rfl _ _ gb374 27 #[.int .i64 t382, .int .i64 t383, .int .i64 t384] (0, 0) _ rfl (by (with_reducible repeat (first | apply bn | apply bd | apply ba)); refine blk_put (cs := #[.int .i64 t382, .int .i64 t383, .int .i64 0]) ?_ 2 _ rfl; (with_reducible repeat (first | apply bn | apply bd | apply ba)); refine blk_put (cs := #[.int .i64 t382, .int .i64 0, .int .i64 0]) ?_ 1 _ rfl; (with_reducible repeat (first | apply bn | apply bd | apply ba)); refine blk_put (cs := #[.int .i64 0, .int .i64 0, .int .i64 0]) ?_ 0 _ rfl; (with_reducible repeat (first | apply bn | apply bd | apply ba)); refine blk_far ?_ NB374_386.out _; (with_reducible repeat (first | apply bn | apply bd | apply ba)); refine blk_far ?_ NB374_386.out _; (with_reducible repeat (first | apply bn | apply bd | apply ba)); refine blk_far ?_ NB374_386.out _; (with_reducible repeat (first | apply bn | apply bd | apply ba)); exact BK374.out) Try.underlying27 rfl (by kernel_rfl)) rfl ?_
           exact ⟨by first | rfl | (simp [errW_none, errW_some] <;> rfl) | (simp [*, errW_none, errW_some] <;> rfl), by repeat (first | (with_reducible first | exact HB.out | apply below_alloc | apply pw_below_drewN | apply below_drew1 | refine below_set ?_ GE373.out | refine below_set ?_ GE374.out | refine below_set ?_ GE386.out) | exact HB.out)⟩
          ·replace c31 := Bool.eq_false_iff.mpr c31
           subst c31
           have H1 : (some (0, 0, 0, 3)) = some (r1, r2, r3, r4) := by rw [if_neg (show ¬ (false = true) by decide)] at H; exact H
           clear H
           have H := H1
           clear H1
           simp only [Option.some.injEq, Prod.mk.injEq] at H
           obtain ⟨rfl, rfl, rfl, rfl⟩ := H
           have hnb40 := NB373_374.out
           have hnc40 := NB374_373.out
           have hcz41_0 : wr.cell? ⟨gb373, 0, none⟩ = some (.int .i64 x374000_2) := (blk_cell BK373.out 0).trans rfl
           have hcz41_1 : wr.cell? ⟨gb373, 1, none⟩ = some (.int .i64 a1_1) := (blk_cell BK373.out 1).trans rfl
           have hcz41_2 : wr.cell? ⟨gb373, 2, none⟩ = some (.int .i64 a1_2) := (blk_cell BK373.out 2).trans rfl
           have hfz41_0 := blk_frozen BK373.out 0
           have hfz41_1 := blk_frozen BK373.out 1
           have hfz41_2 := blk_frozen BK373.out 2
           go_wp2_with (first | (go_at_call 97; (with_reducible refine (spec_l01Of.calls k2 a0 x9_1 x10_2 x374000_2 t382 t383 t384 false _ A30.out).mono ?_); rintro e w42 ⟨rfl, hb⟩; replace BK373 := bb BK373 hb; replace BK374 := bb BK374 hb; replace HB := bs hb; (try clear hb); (try clear hb2); (try clear hk); (try clear hi)) | ((with_reducible refine gate_dst (N := 11) rfl ?_); refine bx (N := 11) (cs := #[.int .i64 0, .int .i64 0, .int .i64 0]) (t := 27) ?_; intro gb386 hg w43 hbox hb; have BK386 := Aside0.mk (hbox); have GW386 := sg hg; have GE386 := sg hg; have NB373_386 := nl hg BK373; have NB386_373 := ng hg BK373; have NB374_386 := nl hg BK374; have NB386_374 := ng hg BK374; replace BK373 := bb BK373 hb; replace BK374 := bb BK374 hb; replace HB := bs hb; clear hb hbox hg; have hnb44 := NB386_373.out; have hnc44 := NB373_386.out; have hnb45 := NB386_374.out; have hnc45 := NB374_386.out; obtain ⟨hcz46_0, hcz46_1, hcz46_2, hfz46_0, hfz46_1, hfz46_2⟩ := c3 BK386; obtain ⟨hcz47_0, hcz47_1, hcz47_2, hfz47_0, hfz47_1, hfz47_2⟩ := c3 BK374))
           repeat (go_quiet (first | (go_at_call 97; (with_reducible refine (spec_l01Of.calls k2 a0 x9_1 x10_2 x374000_2 t382 t383 t384 false _ A30.out).mono ?_); rintro e w42 ⟨rfl, hb⟩; replace BK373 := bb BK373 hb; replace BK374 := bb BK374 hb; replace HB := bs hb; (try clear hb); (try clear hb2); (try clear hk); (try clear hi)) | ((with_reducible refine gate_dst (N := 11) rfl ?_); refine bx (N := 11) (cs := #[.int .i64 0, .int .i64 0, .int .i64 0]) (t := 27) ?_; intro gb386 hg w43 hbox hb; have BK386 := Aside0.mk (hbox); have GW386 := sg hg; have GE386 := sg hg; have NB373_386 := nl hg BK373; have NB386_373 := ng hg BK373; have NB374_386 := nl hg BK374; have NB386_374 := ng hg BK374; replace BK373 := bb BK373 hb; replace BK374 := bb BK374 hb; replace HB := bs hb; clear hb hbox hg; have hnb44 := NB386_373.out; have hnc44 := NB373_386.out; have hnb45 := NB386_374.out; have hnc45 := NB374_386.out; obtain ⟨hcz46_0, hcz46_1, hcz46_2, hfz46_0, hfz46_1, hfz46_2⟩ := c3 BK386; obtain ⟨hcz47_0, hcz47_1, hcz47_2, hfz47_0, hfz47_1, hfz47_2⟩ := c3 BK374)); try go_wp2_with (first | (go_at_call 97; (with_reducible refine (spec_l01Of.calls k2 a0 x9_1 x10_2 x374000_2 t382 t383 t384 false _ A30.out).mono ?_); rintro e w42 ⟨rfl, hb⟩; replace BK373 := bb BK373 hb; replace BK374 := bb BK374 hb; replace HB := bs hb; (try clear hb); (try clear hb2); (try clear hk); (try clear hi)) | ((with_reducible refine gate_dst (N := 11) rfl ?_); refine bx (N := 11) (cs := #[.int .i64 0, .int .i64 0, .int .i64 0]) (t := 27) ?_; intro gb386 hg w43 hbox hb; have BK386 := Aside0.mk (hbox); have GW386 := sg hg; have GE386 := sg hg; have NB373_386 := nl hg BK373; have NB386_373 := ng hg BK373; have NB374_386 := nl hg BK374; have NB386_374 := ng hg BK374; replace BK373 := bb BK373 hb; replace BK374 := bb BK374 hb; replace HB := bs hb; clear hb hbox hg; have hnb44 := NB386_373.out; have hnc44 := NB373_386.out; have hnb45 := NB386_374.out; have hnc45 := NB374_386.out; obtain ⟨hcz46_0, hcz46_1, hcz46_2, hfz46_0, hfz46_1, hfz46_2⟩ := c3 BK386; obtain ⟨hcz47_0, hcz47_1, hcz47_2, hfz47_0, hfz47_1, hfz47_2⟩ := c3 BK374)))
           refine bodyPost_ret (results_ct rfl _ _ gb374 27 #[.int .i64 0, .int .i64 0, .int .i64 0] (0, 0) _ rfl (by (with_reducible repeat (first | apply bn | apply bd | apply ba)); refine blk_put (cs := #[.int .i64 0, .int .i64 0, .int .i64 0]) ?_ 2 _ rfl; (with_reducible repeat (first | apply bn | apply bd | apply ba)); refine blk_put (cs := #[.int .i64 0, .int .i64 0, .int .i64 0]) ?_ 1 _ rfl; (with_reducible repeat (first | apply bn | apply bd | apply ba)); refine blk_put (cs := #[.int .i64 0, .int .i64 0, .int .i64 0]) ?_ 0 _ rfl; (with_reducible repeat (first | apply bn | apply bd | apply ba)); refine blk_far ?_ NB374_386.out _; (with_reducible repeat (first | apply bn | apply bd | apply ba)); refine blk_far ?_ NB374_386.out _; (with_reducible repeat (first | apply bn | apply bd | apply ba)); refine blk_far ?_ NB374_386.out _; (with_reducible repeat (first | apply bn | apply bd | apply ba)); exact BK374.out) Try.underlying27 rfl (by kernel_rfl)) rfl ?_
           exact ⟨by first | rfl | (simp [errW_none, errW_some] <;> rfl) | (simp [*, errW_none, errW_some] <;> rfl), by repeat (first | (with_reducible first | exact HB.out | apply below_alloc | apply pw_below_drewN | apply below_drew1 | refine below_set ?_ GE373.out | refine below_set ?_ GE374.out | refine below_set ?_ GE386.out) | exact HB.out)⟩
   ·replace c9 := Bool.eq_false_iff.mpr c9
    subst c9
    have H1 : (some (0, 0, 0, 3)) = some (r1, r2, r3, r4) := by rw [if_neg (show ¬ (false = true) by decide)] at H; exact H
    clear H
    have H := H1
    clear H1
    simp only [Option.some.injEq, Prod.mk.injEq] at H
    obtain ⟨rfl, rfl, rfl, rfl⟩ := H
    go_enter Try.func27, Try.ntmps27
    go_wp2_with (first | ((with_reducible refine gate_dst (N := 4) rfl ?_); refine bx (N := 4) (cs := #[.int .i64 a1_0, .int .i64 a1_1, .int .i64 a1_2]) (t := 27) ?_; intro gb373 hg w48 hbox hb; have BK373 := Aside0.mk (hbox); have GW373 := sg hg; have GE373 := sg hg; replace HB := bs hb; clear hb hbox hg) | ((with_reducible refine gate_dst (N := 6) rfl ?_); refine bx (N := 6) (cs := #[.int .i64 0, .int .i64 0, .int .i64 0]) (t := 27) ?_; intro gb374 hg w49 hbox hb; have BK374 := Aside0.mk (hbox); have GW374 := sg hg; have GE374 := sg hg; have NB373_374 := nl hg BK373; have NB374_373 := ng hg BK373; replace BK373 := bb BK373 hb; replace HB := bs hb; clear hb hbox hg; have hnb50 := NB373_374.out; have hnc50 := NB374_373.out; obtain ⟨hcz51_0, hcz51_1, hcz51_2, hfz51_0, hfz51_1, hfz51_2⟩ := c3 BK373) | ((with_reducible refine gate_dst (N := 15) rfl ?_); refine Kd.R_lit k27 _ 27 ?hg (N := 15) ?hd (xs := ([(⟨a1_0, a1_1, a1_2⟩ : S27)] : List (S27))) (inner := [.int .i64 a1_0, .int .i64 a1_1, .int .i64 a1_2]) (ok := fun _ => True) (okp := fun _ => True) ?hr ?hp (fun _ hk => hk) trivial (Below.refl _ _) (Nat.le_refl _) (by simp) ?_; (case hd => rfl); (case hg => rfl); (case hr => first | (go_simp; done) | (go_simp; rfl)); (case hp => exact (Reps.c3 (show Kd.M k27 _ _ _ (⟨a1_0, a1_1, a1_2⟩ : S27) [.int .i64 a1_0, .int .i64 a1_1, .int .i64 a1_2] from (k27_mkM _ _ _ (⟨a1_0, a1_1, a1_2⟩ : S27) )) (Reps.none _ _))); intro v376 w52 ho53 hb hg_ hnew_; clear hg_ hnew_; (first | rw [← Ny375.out] at ho53 | (simp only [Int.reduceToNat] at ho53; rw [← Ny375.out] at ho53)); have HO377 := Aside0.mk (Kd.R_lower (Kd.R_newB (Kd.R_newB ho53 (g := gb373) (o := .cells #[.int .i64 a1_0, .int .i64 a1_1, .int .i64 a1_2] 27 (0, 0)) (be BK373)) (g := gb374) (o := .cells #[.int .i64 0, .int .i64 0, .int .i64 0] 27 (0, 0)) (be BK374)) (below_size (by repeat (first | (with_reducible first | exact HB.out | apply below_alloc | apply pw_below_drewN | apply below_drew1 | refine below_set ?_ GE373.out | refine below_set ?_ GE374.out) | exact HB.out)))); replace BK373 := bb BK373 hb; replace BK374 := bb BK374 hb; replace HB := bs hb; clear hb ho53; obtain ⟨Ao54, co54, eo54⟩ := Kd.R_slice HO377.out; subst eo54) | (go_at_call 81; (with_reducible refine (spec_l01Code.calls k a0 _ _ y375 t378 _ ?side1 ?side2 A4.out).mono ?_); (case side1 => repeat (first | exact (Kd.R_reads' HO377.out).2.2 | (with_reducible refine Kd.C_alloc ?_ _) | (with_reducible refine Kd.C_drewN ?_ _) | (with_reducible refine Kd.C_drew ?_))); (case side2 => exact (Kd.R_reads' HO377.out).2.1); rintro e w55 ⟨rfl, hb⟩; replace HO377 := Aside0.mk (Kd.R_below (by (with_reducible repeat (first | apply Kd.R_alloc | apply Kd.R_drewN | apply Kd.R_drew)); exact HO377.out) hb); replace BK373 := bb BK373 hb; replace BK374 := bb BK374 hb; replace HB := bs hb; (try clear hb); (try clear hb2); (try clear hk); (try clear hi)) | (go_at_call 88; (with_reducible refine (spec_l01In.calls a2 (-20) 20 true _ A6.out).mono ?_); rintro e w' ⟨rfl, ⟨nd, rfl⟩⟩; (try first | exact ⟨rfl, _, World.drewN_drewN _ _ _⟩ | exact ⟨rfl, _, Eq.trans (World.drewN_drewN _ _ _) (congrArg (World.drewN _) (Nat.add_assoc _ _ _))⟩); obtain ⟨hcz56_0, hcz56_1, hcz56_2, hfz56_0, hfz56_1, hfz56_2⟩ := c3 BK373) | (go_at_call 88; (with_reducible refine (spec_l01In.calls (wrap64 (a1_0 + a2)) (-6) 6 false _ A8.out).mono ?_); rintro e w' ⟨rfl, ⟨nd, rfl⟩⟩; (try first | exact ⟨rfl, _, World.drewN_drewN _ _ _⟩ | exact ⟨rfl, _, Eq.trans (World.drewN_drewN _ _ _) (congrArg (World.drewN _) (Nat.add_assoc _ _ _))⟩); obtain ⟨hcz57_0, hcz57_1, hcz57_2, hfz57_0, hfz57_1, hfz57_2⟩ := c3 BK374))
    repeat (go_quiet (first | ((with_reducible refine gate_dst (N := 4) rfl ?_); refine bx (N := 4) (cs := #[.int .i64 a1_0, .int .i64 a1_1, .int .i64 a1_2]) (t := 27) ?_; intro gb373 hg w48 hbox hb; have BK373 := Aside0.mk (hbox); have GW373 := sg hg; have GE373 := sg hg; replace HB := bs hb; clear hb hbox hg) | ((with_reducible refine gate_dst (N := 6) rfl ?_); refine bx (N := 6) (cs := #[.int .i64 0, .int .i64 0, .int .i64 0]) (t := 27) ?_; intro gb374 hg w49 hbox hb; have BK374 := Aside0.mk (hbox); have GW374 := sg hg; have GE374 := sg hg; have NB373_374 := nl hg BK373; have NB374_373 := ng hg BK373; replace BK373 := bb BK373 hb; replace HB := bs hb; clear hb hbox hg; have hnb50 := NB373_374.out; have hnc50 := NB374_373.out; obtain ⟨hcz51_0, hcz51_1, hcz51_2, hfz51_0, hfz51_1, hfz51_2⟩ := c3 BK373) | ((with_reducible refine gate_dst (N := 15) rfl ?_); refine Kd.R_lit k27 _ 27 ?hg (N := 15) ?hd (xs := ([(⟨a1_0, a1_1, a1_2⟩ : S27)] : List (S27))) (inner := [.int .i64 a1_0, .int .i64 a1_1, .int .i64 a1_2]) (ok := fun _ => True) (okp := fun _ => True) ?hr ?hp (fun _ hk => hk) trivial (Below.refl _ _) (Nat.le_refl _) (by simp) ?_; (case hd => rfl); (case hg => rfl); (case hr => first | (go_simp; done) | (go_simp; rfl)); (case hp => exact (Reps.c3 (show Kd.M k27 _ _ _ (⟨a1_0, a1_1, a1_2⟩ : S27) [.int .i64 a1_0, .int .i64 a1_1, .int .i64 a1_2] from (k27_mkM _ _ _ (⟨a1_0, a1_1, a1_2⟩ : S27) )) (Reps.none _ _))); intro v376 w52 ho53 hb hg_ hnew_; clear hg_ hnew_; (first | rw [← Ny375.out] at ho53 | (simp only [Int.reduceToNat] at ho53; rw [← Ny375.out] at ho53)); have HO377 := Aside0.mk (Kd.R_lower (Kd.R_newB (Kd.R_newB ho53 (g := gb373) (o := .cells #[.int .i64 a1_0, .int .i64 a1_1, .int .i64 a1_2] 27 (0, 0)) (be BK373)) (g := gb374) (o := .cells #[.int .i64 0, .int .i64 0, .int .i64 0] 27 (0, 0)) (be BK374)) (below_size (by repeat (first | (with_reducible first | exact HB.out | apply below_alloc | apply pw_below_drewN | apply below_drew1 | refine below_set ?_ GE373.out | refine below_set ?_ GE374.out) | exact HB.out)))); replace BK373 := bb BK373 hb; replace BK374 := bb BK374 hb; replace HB := bs hb; clear hb ho53; obtain ⟨Ao54, co54, eo54⟩ := Kd.R_slice HO377.out; subst eo54) | (go_at_call 81; (with_reducible refine (spec_l01Code.calls k a0 _ _ y375 t378 _ ?side1 ?side2 A4.out).mono ?_); (case side1 => repeat (first | exact (Kd.R_reads' HO377.out).2.2 | (with_reducible refine Kd.C_alloc ?_ _) | (with_reducible refine Kd.C_drewN ?_ _) | (with_reducible refine Kd.C_drew ?_))); (case side2 => exact (Kd.R_reads' HO377.out).2.1); rintro e w55 ⟨rfl, hb⟩; replace HO377 := Aside0.mk (Kd.R_below (by (with_reducible repeat (first | apply Kd.R_alloc | apply Kd.R_drewN | apply Kd.R_drew)); exact HO377.out) hb); replace BK373 := bb BK373 hb; replace BK374 := bb BK374 hb; replace HB := bs hb; (try clear hb); (try clear hb2); (try clear hk); (try clear hi)) | (go_at_call 88; (with_reducible refine (spec_l01In.calls a2 (-20) 20 true _ A6.out).mono ?_); rintro e w' ⟨rfl, ⟨nd, rfl⟩⟩; (try first | exact ⟨rfl, _, World.drewN_drewN _ _ _⟩ | exact ⟨rfl, _, Eq.trans (World.drewN_drewN _ _ _) (congrArg (World.drewN _) (Nat.add_assoc _ _ _))⟩); obtain ⟨hcz56_0, hcz56_1, hcz56_2, hfz56_0, hfz56_1, hfz56_2⟩ := c3 BK373) | (go_at_call 88; (with_reducible refine (spec_l01In.calls (wrap64 (a1_0 + a2)) (-6) 6 false _ A8.out).mono ?_); rintro e w' ⟨rfl, ⟨nd, rfl⟩⟩; (try first | exact ⟨rfl, _, World.drewN_drewN _ _ _⟩ | exact ⟨rfl, _, Eq.trans (World.drewN_drewN _ _ _) (congrArg (World.drewN _) (Nat.add_assoc _ _ _))⟩); obtain ⟨hcz57_0, hcz57_1, hcz57_2, hfz57_0, hfz57_1, hfz57_2⟩ := c3 BK374)); try go_wp2_with (first | ((with_reducible refine gate_dst (N := 4) rfl ?_); refine bx (N := 4) (cs := #[.int .i64 a1_0, .int .i64 a1_1, .int .i64 a1_2]) (t := 27) ?_; intro gb373 hg w48 hbox hb; have BK373 := Aside0.mk (hbox); have GW373 := sg hg; have GE373 := sg hg; replace HB := bs hb; clear hb hbox hg) | ((with_reducible refine gate_dst (N := 6) rfl ?_); refine bx (N := 6) (cs := #[.int .i64 0, .int .i64 0, .int .i64 0]) (t := 27) ?_; intro gb374 hg w49 hbox hb; have BK374 := Aside0.mk (hbox); have GW374 := sg hg; have GE374 := sg hg; have NB373_374 := nl hg BK373; have NB374_373 := ng hg BK373; replace BK373 := bb BK373 hb; replace HB := bs hb; clear hb hbox hg; have hnb50 := NB373_374.out; have hnc50 := NB374_373.out; obtain ⟨hcz51_0, hcz51_1, hcz51_2, hfz51_0, hfz51_1, hfz51_2⟩ := c3 BK373) | ((with_reducible refine gate_dst (N := 15) rfl ?_); refine Kd.R_lit k27 _ 27 ?hg (N := 15) ?hd (xs := ([(⟨a1_0, a1_1, a1_2⟩ : S27)] : List (S27))) (inner := [.int .i64 a1_0, .int .i64 a1_1, .int .i64 a1_2]) (ok := fun _ => True) (okp := fun _ => True) ?hr ?hp (fun _ hk => hk) trivial (Below.refl _ _) (Nat.le_refl _) (by simp) ?_; (case hd => rfl); (case hg => rfl); (case hr => first | (go_simp; done) | (go_simp; rfl)); (case hp => exact (Reps.c3 (show Kd.M k27 _ _ _ (⟨a1_0, a1_1, a1_2⟩ : S27) [.int .i64 a1_0, .int .i64 a1_1, .int .i64 a1_2] from (k27_mkM _ _ _ (⟨a1_0, a1_1, a1_2⟩ : S27) )) (Reps.none _ _))); intro v376 w52 ho53 hb hg_ hnew_; clear hg_ hnew_; (first | rw [← Ny375.out] at ho53 | (simp only [Int.reduceToNat] at ho53; rw [← Ny375.out] at ho53)); have HO377 := Aside0.mk (Kd.R_lower (Kd.R_newB (Kd.R_newB ho53 (g := gb373) (o := .cells #[.int .i64 a1_0, .int .i64 a1_1, .int .i64 a1_2] 27 (0, 0)) (be BK373)) (g := gb374) (o := .cells #[.int .i64 0, .int .i64 0, .int .i64 0] 27 (0, 0)) (be BK374)) (below_size (by repeat (first | (with_reducible first | exact HB.out | apply below_alloc | apply pw_below_drewN | apply below_drew1 | refine below_set ?_ GE373.out | refine below_set ?_ GE374.out) | exact HB.out)))); replace BK373 := bb BK373 hb; replace BK374 := bb BK374 hb; replace HB := bs hb; clear hb ho53; obtain ⟨Ao54, co54, eo54⟩ := Kd.R_slice HO377.out; subst eo54) | (go_at_call 81; (with_reducible refine (spec_l01Code.calls k a0 _ _ y375 t378 _ ?side1 ?side2 A4.out).mono ?_); (case side1 => repeat (first | exact (Kd.R_reads' HO377.out).2.2 | (with_reducible refine Kd.C_alloc ?_ _) | (with_reducible refine Kd.C_drewN ?_ _) | (with_reducible refine Kd.C_drew ?_))); (case side2 => exact (Kd.R_reads' HO377.out).2.1); rintro e w55 ⟨rfl, hb⟩; replace HO377 := Aside0.mk (Kd.R_below (by (with_reducible repeat (first | apply Kd.R_alloc | apply Kd.R_drewN | apply Kd.R_drew)); exact HO377.out) hb); replace BK373 := bb BK373 hb; replace BK374 := bb BK374 hb; replace HB := bs hb; (try clear hb); (try clear hb2); (try clear hk); (try clear hi)) | (go_at_call 88; (with_reducible refine (spec_l01In.calls a2 (-20) 20 true _ A6.out).mono ?_); rintro e w' ⟨rfl, ⟨nd, rfl⟩⟩; (try first | exact ⟨rfl, _, World.drewN_drewN _ _ _⟩ | exact ⟨rfl, _, Eq.trans (World.drewN_drewN _ _ _) (congrArg (World.drewN _) (Nat.add_assoc _ _ _))⟩); obtain ⟨hcz56_0, hcz56_1, hcz56_2, hfz56_0, hfz56_1, hfz56_2⟩ := c3 BK373) | (go_at_call 88; (with_reducible refine (spec_l01In.calls (wrap64 (a1_0 + a2)) (-6) 6 false _ A8.out).mono ?_); rintro e w' ⟨rfl, ⟨nd, rfl⟩⟩; (try first | exact ⟨rfl, _, World.drewN_drewN _ _ _⟩ | exact ⟨rfl, _, Eq.trans (World.drewN_drewN _ _ _) (congrArg (World.drewN _) (Nat.add_assoc _ _ _))⟩); obtain ⟨hcz57_0, hcz57_1, hcz57_2, hfz57_0, hfz57_1, hfz57_2⟩ := c3 BK374)))
    refine bodyPost_ret (results_ct rfl _ _ gb374 27 #[.int .i64 0, .int .i64 0, .int .i64 0] (0, 0) _ rfl (by (with_reducible repeat (first | apply bn | apply bd | apply ba)); refine blk_put (cs := #[.int .i64 0, .int .i64 0, .int .i64 0]) ?_ 2 _ rfl; (with_reducible repeat (first | apply bn | apply bd | apply ba)); refine blk_put (cs := #[.int .i64 0, .int .i64 0, .int .i64 0]) ?_ 1 _ rfl; (with_reducible repeat (first | apply bn | apply bd | apply ba)); refine blk_put (cs := #[.int .i64 0, .int .i64 0, .int .i64 0]) ?_ 0 _ rfl; (with_reducible repeat (first | apply bn | apply bd | apply ba)); exact BK374.out) Try.underlying27 rfl (by kernel_rfl)) rfl ?_
    exact ⟨by first | rfl | (simp [errW_none, errW_some] <;> rfl) | (simp [*, errW_none, errW_some] <;> rfl), by repeat (first | (with_reducible first | exact HB.out | apply below_alloc | apply pw_below_drewN | apply below_drew1 | refine below_set ?_ GE373.out | refine below_set ?_ GE374.out) | exact HB.out)⟩
  ·replace c7 := Bool.eq_false_iff.mpr c7
   subst c7
   have H1 : (some (0, 0, 0, 2)) = some (r1, r2, r3, r4) := by rw [if_neg (show ¬ (false = true) by decide)] at H; exact H
   clear H
   have H := H1
   clear H1
   simp only [Option.some.injEq, Prod.mk.injEq] at H
   obtain ⟨rfl, rfl, rfl, rfl⟩ := H
   go_enter Try.func27, Try.ntmps27
   go_wp2_with (first | ((with_reducible refine gate_dst (N := 4) rfl ?_); refine bx (N := 4) (cs := #[.int .i64 a1_0, .int .i64 a1_1, .int .i64 a1_2]) (t := 27) ?_; intro gb373 hg w58 hbox hb; have BK373 := Aside0.mk (hbox); have GW373 := sg hg; have GE373 := sg hg; replace HB := bs hb; clear hb hbox hg) | ((with_reducible refine gate_dst (N := 6) rfl ?_); refine bx (N := 6) (cs := #[.int .i64 0, .int .i64 0, .int .i64 0]) (t := 27) ?_; intro gb374 hg w59 hbox hb; have BK374 := Aside0.mk (hbox); have GW374 := sg hg; have GE374 := sg hg; have NB373_374 := nl hg BK373; have NB374_373 := ng hg BK373; replace BK373 := bb BK373 hb; replace HB := bs hb; clear hb hbox hg; have hnb60 := NB373_374.out; have hnc60 := NB374_373.out; obtain ⟨hcz61_0, hcz61_1, hcz61_2, hfz61_0, hfz61_1, hfz61_2⟩ := c3 BK373) | ((with_reducible refine gate_dst (N := 15) rfl ?_); refine Kd.R_lit k27 _ 27 ?hg (N := 15) ?hd (xs := ([(⟨a1_0, a1_1, a1_2⟩ : S27)] : List (S27))) (inner := [.int .i64 a1_0, .int .i64 a1_1, .int .i64 a1_2]) (ok := fun _ => True) (okp := fun _ => True) ?hr ?hp (fun _ hk => hk) trivial (Below.refl _ _) (Nat.le_refl _) (by simp) ?_; (case hd => rfl); (case hg => rfl); (case hr => first | (go_simp; done) | (go_simp; rfl)); (case hp => exact (Reps.c3 (show Kd.M k27 _ _ _ (⟨a1_0, a1_1, a1_2⟩ : S27) [.int .i64 a1_0, .int .i64 a1_1, .int .i64 a1_2] from (k27_mkM _ _ _ (⟨a1_0, a1_1, a1_2⟩ : S27) )) (Reps.none _ _))); intro v376 w62 ho63 hb hg_ hnew_; clear hg_ hnew_; (first | rw [← Ny375.out] at ho63 | (simp only [Int.reduceToNat] at ho63; rw [← Ny375.out] at ho63)); have HO377 := Aside0.mk (Kd.R_lower (Kd.R_newB (Kd.R_newB ho63 (g := gb373) (o := .cells #[.int .i64 a1_0, .int .i64 a1_1, .int .i64 a1_2] 27 (0, 0)) (be BK373)) (g := gb374) (o := .cells #[.int .i64 0, .int .i64 0, .int .i64 0] 27 (0, 0)) (be BK374)) (below_size (by repeat (first | (with_reducible first | exact HB.out | apply below_alloc | apply pw_below_drewN | apply below_drew1 | refine below_set ?_ GE373.out | refine below_set ?_ GE374.out) | exact HB.out)))); replace BK373 := bb BK373 hb; replace BK374 := bb BK374 hb; replace HB := bs hb; clear hb ho63; obtain ⟨Ao64, co64, eo64⟩ := Kd.R_slice HO377.out; subst eo64) | (go_at_call 81; (with_reducible refine (spec_l01Code.calls k a0 _ _ y375 t378 _ ?side1 ?side2 A4.out).mono ?_); (case side1 => repeat (first | exact (Kd.R_reads' HO377.out).2.2 | (with_reducible refine Kd.C_alloc ?_ _) | (with_reducible refine Kd.C_drewN ?_ _) | (with_reducible refine Kd.C_drew ?_))); (case side2 => exact (Kd.R_reads' HO377.out).2.1); rintro e w65 ⟨rfl, hb⟩; replace HO377 := Aside0.mk (Kd.R_below (by (with_reducible repeat (first | apply Kd.R_alloc | apply Kd.R_drewN | apply Kd.R_drew)); exact HO377.out) hb); replace BK373 := bb BK373 hb; replace BK374 := bb BK374 hb; replace HB := bs hb; (try clear hb); (try clear hb2); (try clear hk); (try clear hi)) | (go_at_call 88; (with_reducible refine (spec_l01In.calls a2 (-20) 20 false _ A6.out).mono ?_); rintro e w' ⟨rfl, ⟨nd, rfl⟩⟩; (try first | exact ⟨rfl, _, World.drewN_drewN _ _ _⟩ | exact ⟨rfl, _, Eq.trans (World.drewN_drewN _ _ _) (congrArg (World.drewN _) (Nat.add_assoc _ _ _))⟩); obtain ⟨hcz66_0, hcz66_1, hcz66_2, hfz66_0, hfz66_1, hfz66_2⟩ := c3 BK374))
   repeat (go_quiet (first | ((with_reducible refine gate_dst (N := 4) rfl ?_); refine bx (N := 4) (cs := #[.int .i64 a1_0, .int .i64 a1_1, .int .i64 a1_2]) (t := 27) ?_; intro gb373 hg w58 hbox hb; have BK373 := Aside0.mk (hbox); have GW373 := sg hg; have GE373 := sg hg; replace HB := bs hb; clear hb hbox hg) | ((with_reducible refine gate_dst (N := 6) rfl ?_); refine bx (N := 6) (cs := #[.int .i64 0, .int .i64 0, .int .i64 0]) (t := 27) ?_; intro gb374 hg w59 hbox hb; have BK374 := Aside0.mk (hbox); have GW374 := sg hg; have GE374 := sg hg; have NB373_374 := nl hg BK373; have NB374_373 := ng hg BK373; replace BK373 := bb BK373 hb; replace HB := bs hb; clear hb hbox hg; have hnb60 := NB373_374.out; have hnc60 := NB374_373.out; obtain ⟨hcz61_0, hcz61_1, hcz61_2, hfz61_0, hfz61_1, hfz61_2⟩ := c3 BK373) | ((with_reducible refine gate_dst (N := 15) rfl ?_); refine Kd.R_lit k27 _ 27 ?hg (N := 15) ?hd (xs := ([(⟨a1_0, a1_1, a1_2⟩ : S27)] : List (S27))) (inner := [.int .i64 a1_0, .int .i64 a1_1, .int .i64 a1_2]) (ok := fun _ => True) (okp := fun _ => True) ?hr ?hp (fun _ hk => hk) trivial (Below.refl _ _) (Nat.le_refl _) (by simp) ?_; (case hd => rfl); (case hg => rfl); (case hr => first | (go_simp; done) | (go_simp; rfl)); (case hp => exact (Reps.c3 (show Kd.M k27 _ _ _ (⟨a1_0, a1_1, a1_2⟩ : S27) [.int .i64 a1_0, .int .i64 a1_1, .int .i64 a1_2] from (k27_mkM _ _ _ (⟨a1_0, a1_1, a1_2⟩ : S27) )) (Reps.none _ _))); intro v376 w62 ho63 hb hg_ hnew_; clear hg_ hnew_; (first | rw [← Ny375.out] at ho63 | (simp only [Int.reduceToNat] at ho63; rw [← Ny375.out] at ho63)); have HO377 := Aside0.mk (Kd.R_lower (Kd.R_newB (Kd.R_newB ho63 (g := gb373) (o := .cells #[.int .i64 a1_0, .int .i64 a1_1, .int .i64 a1_2] 27 (0, 0)) (be BK373)) (g := gb374) (o := .cells #[.int .i64 0, .int .i64 0, .int .i64 0] 27 (0, 0)) (be BK374)) (below_size (by repeat (first | (with_reducible first | exact HB.out | apply below_alloc | apply pw_below_drewN | apply below_drew1 | refine below_set ?_ GE373.out | refine below_set ?_ GE374.out) | exact HB.out)))); replace BK373 := bb BK373 hb; replace BK374 := bb BK374 hb; replace HB := bs hb; clear hb ho63; obtain ⟨Ao64, co64, eo64⟩ := Kd.R_slice HO377.out; subst eo64) | (go_at_call 81; (with_reducible refine (spec_l01Code.calls k a0 _ _ y375 t378 _ ?side1 ?side2 A4.out).mono ?_); (case side1 => repeat (first | exact (Kd.R_reads' HO377.out).2.2 | (with_reducible refine Kd.C_alloc ?_ _) | (with_reducible refine Kd.C_drewN ?_ _) | (with_reducible refine Kd.C_drew ?_))); (case side2 => exact (Kd.R_reads' HO377.out).2.1); rintro e w65 ⟨rfl, hb⟩; replace HO377 := Aside0.mk (Kd.R_below (by (with_reducible repeat (first | apply Kd.R_alloc | apply Kd.R_drewN | apply Kd.R_drew)); exact HO377.out) hb); replace BK373 := bb BK373 hb; replace BK374 := bb BK374 hb; replace HB := bs hb; (try clear hb); (try clear hb2); (try clear hk); (try clear hi)) | (go_at_call 88; (with_reducible refine (spec_l01In.calls a2 (-20) 20 false _ A6.out).mono ?_); rintro e w' ⟨rfl, ⟨nd, rfl⟩⟩; (try first | exact ⟨rfl, _, World.drewN_drewN _ _ _⟩ | exact ⟨rfl, _, Eq.trans (World.drewN_drewN _ _ _) (congrArg (World.drewN _) (Nat.add_assoc _ _ _))⟩); obtain ⟨hcz66_0, hcz66_1, hcz66_2, hfz66_0, hfz66_1, hfz66_2⟩ := c3 BK374)); try go_wp2_with (first | ((with_reducible refine gate_dst (N := 4) rfl ?_); refine bx (N := 4) (cs := #[.int .i64 a1_0, .int .i64 a1_1, .int .i64 a1_2]) (t := 27) ?_; intro gb373 hg w58 hbox hb; have BK373 := Aside0.mk (hbox); have GW373 := sg hg; have GE373 := sg hg; replace HB := bs hb; clear hb hbox hg) | ((with_reducible refine gate_dst (N := 6) rfl ?_); refine bx (N := 6) (cs := #[.int .i64 0, .int .i64 0, .int .i64 0]) (t := 27) ?_; intro gb374 hg w59 hbox hb; have BK374 := Aside0.mk (hbox); have GW374 := sg hg; have GE374 := sg hg; have NB373_374 := nl hg BK373; have NB374_373 := ng hg BK373; replace BK373 := bb BK373 hb; replace HB := bs hb; clear hb hbox hg; have hnb60 := NB373_374.out; have hnc60 := NB374_373.out; obtain ⟨hcz61_0, hcz61_1, hcz61_2, hfz61_0, hfz61_1, hfz61_2⟩ := c3 BK373) | ((with_reducible refine gate_dst (N := 15) rfl ?_); refine Kd.R_lit k27 _ 27 ?hg (N := 15) ?hd (xs := ([(⟨a1_0, a1_1, a1_2⟩ : S27)] : List (S27))) (inner := [.int .i64 a1_0, .int .i64 a1_1, .int .i64 a1_2]) (ok := fun _ => True) (okp := fun _ => True) ?hr ?hp (fun _ hk => hk) trivial (Below.refl _ _) (Nat.le_refl _) (by simp) ?_; (case hd => rfl); (case hg => rfl); (case hr => first | (go_simp; done) | (go_simp; rfl)); (case hp => exact (Reps.c3 (show Kd.M k27 _ _ _ (⟨a1_0, a1_1, a1_2⟩ : S27) [.int .i64 a1_0, .int .i64 a1_1, .int .i64 a1_2] from (k27_mkM _ _ _ (⟨a1_0, a1_1, a1_2⟩ : S27) )) (Reps.none _ _))); intro v376 w62 ho63 hb hg_ hnew_; clear hg_ hnew_; (first | rw [← Ny375.out] at ho63 | (simp only [Int.reduceToNat] at ho63; rw [← Ny375.out] at ho63)); have HO377 := Aside0.mk (Kd.R_lower (Kd.R_newB (Kd.R_newB ho63 (g := gb373) (o := .cells #[.int .i64 a1_0, .int .i64 a1_1, .int .i64 a1_2] 27 (0, 0)) (be BK373)) (g := gb374) (o := .cells #[.int .i64 0, .int .i64 0, .int .i64 0] 27 (0, 0)) (be BK374)) (below_size (by repeat (first | (with_reducible first | exact HB.out | apply below_alloc | apply pw_below_drewN | apply below_drew1 | refine below_set ?_ GE373.out | refine below_set ?_ GE374.out) | exact HB.out)))); replace BK373 := bb BK373 hb; replace BK374 := bb BK374 hb; replace HB := bs hb; clear hb ho63; obtain ⟨Ao64, co64, eo64⟩ := Kd.R_slice HO377.out; subst eo64) | (go_at_call 81; (with_reducible refine (spec_l01Code.calls k a0 _ _ y375 t378 _ ?side1 ?side2 A4.out).mono ?_); (case side1 => repeat (first | exact (Kd.R_reads' HO377.out).2.2 | (with_reducible refine Kd.C_alloc ?_ _) | (with_reducible refine Kd.C_drewN ?_ _) | (with_reducible refine Kd.C_drew ?_))); (case side2 => exact (Kd.R_reads' HO377.out).2.1); rintro e w65 ⟨rfl, hb⟩; replace HO377 := Aside0.mk (Kd.R_below (by (with_reducible repeat (first | apply Kd.R_alloc | apply Kd.R_drewN | apply Kd.R_drew)); exact HO377.out) hb); replace BK373 := bb BK373 hb; replace BK374 := bb BK374 hb; replace HB := bs hb; (try clear hb); (try clear hb2); (try clear hk); (try clear hi)) | (go_at_call 88; (with_reducible refine (spec_l01In.calls a2 (-20) 20 false _ A6.out).mono ?_); rintro e w' ⟨rfl, ⟨nd, rfl⟩⟩; (try first | exact ⟨rfl, _, World.drewN_drewN _ _ _⟩ | exact ⟨rfl, _, Eq.trans (World.drewN_drewN _ _ _) (congrArg (World.drewN _) (Nat.add_assoc _ _ _))⟩); obtain ⟨hcz66_0, hcz66_1, hcz66_2, hfz66_0, hfz66_1, hfz66_2⟩ := c3 BK374)))
   refine bodyPost_ret (results_ct rfl _ _ gb374 27 #[.int .i64 0, .int .i64 0, .int .i64 0] (0, 0) _ rfl (by (with_reducible repeat (first | apply bn | apply bd | apply ba)); refine blk_put (cs := #[.int .i64 0, .int .i64 0, .int .i64 0]) ?_ 2 _ rfl; (with_reducible repeat (first | apply bn | apply bd | apply ba)); refine blk_put (cs := #[.int .i64 0, .int .i64 0, .int .i64 0]) ?_ 1 _ rfl; (with_reducible repeat (first | apply bn | apply bd | apply ba)); refine blk_put (cs := #[.int .i64 0, .int .i64 0, .int .i64 0]) ?_ 0 _ rfl; (with_reducible repeat (first | apply bn | apply bd | apply ba)); exact BK374.out) Try.underlying27 rfl (by kernel_rfl)) rfl ?_
   exact ⟨by first | rfl | (simp [errW_none, errW_some] <;> rfl) | (simp [*, errW_none, errW_some] <;> rfl), by repeat (first | (with_reducible first | exact HB.out | apply below_alloc | apply pw_below_drewN | apply below_drew1 | refine below_set ?_ GE373.out | refine below_set ?_ GE374.out) | exact HB.out)⟩
 ·rw [if_neg c5] at H
  have c5b0 : (t378 == 0) = false := beq_eq_false_iff_ne.mpr c5
  have c5b1 : (t378 != 0) = true := bne_iff_ne.mpr c5
  simp only [Option.some.injEq, Prod.mk.injEq] at H
  obtain ⟨rfl, rfl, rfl, rfl⟩ := H
  go_enter Try.func27, Try.ntmps27
  go_wp2_with (first | ((with_reducible refine gate_dst (N := 4) rfl ?_); refine bx (N := 4) (cs := #[.int .i64 a1_0, .int .i64 a1_1, .int .i64 a1_2]) (t := 27) ?_; intro gb373 hg w67 hbox hb; have BK373 := Aside0.mk (hbox); have GW373 := sg hg; have GE373 := sg hg; replace HB := bs hb; clear hb hbox hg) | ((with_reducible refine gate_dst (N := 6) rfl ?_); refine bx (N := 6) (cs := #[.int .i64 0, .int .i64 0, .int .i64 0]) (t := 27) ?_; intro gb374 hg w68 hbox hb; have BK374 := Aside0.mk (hbox); have GW374 := sg hg; have GE374 := sg hg; have NB373_374 := nl hg BK373; have NB374_373 := ng hg BK373; replace BK373 := bb BK373 hb; replace HB := bs hb; clear hb hbox hg; have hnb69 := NB373_374.out; have hnc69 := NB374_373.out; obtain ⟨hcz70_0, hcz70_1, hcz70_2, hfz70_0, hfz70_1, hfz70_2⟩ := c3 BK373) | ((with_reducible refine gate_dst (N := 15) rfl ?_); refine Kd.R_lit k27 _ 27 ?hg (N := 15) ?hd (xs := ([(⟨a1_0, a1_1, a1_2⟩ : S27)] : List (S27))) (inner := [.int .i64 a1_0, .int .i64 a1_1, .int .i64 a1_2]) (ok := fun _ => True) (okp := fun _ => True) ?hr ?hp (fun _ hk => hk) trivial (Below.refl _ _) (Nat.le_refl _) (by simp) ?_; (case hd => rfl); (case hg => rfl); (case hr => first | (go_simp; done) | (go_simp; rfl)); (case hp => exact (Reps.c3 (show Kd.M k27 _ _ _ (⟨a1_0, a1_1, a1_2⟩ : S27) [.int .i64 a1_0, .int .i64 a1_1, .int .i64 a1_2] from (k27_mkM _ _ _ (⟨a1_0, a1_1, a1_2⟩ : S27) )) (Reps.none _ _))); intro v376 w71 ho72 hb hg_ hnew_; clear hg_ hnew_; (first | rw [← Ny375.out] at ho72 | (simp only [Int.reduceToNat] at ho72; rw [← Ny375.out] at ho72)); have HO377 := Aside0.mk (Kd.R_lower (Kd.R_newB (Kd.R_newB ho72 (g := gb373) (o := .cells #[.int .i64 a1_0, .int .i64 a1_1, .int .i64 a1_2] 27 (0, 0)) (be BK373)) (g := gb374) (o := .cells #[.int .i64 0, .int .i64 0, .int .i64 0] 27 (0, 0)) (be BK374)) (below_size (by repeat (first | (with_reducible first | exact HB.out | apply below_alloc | apply pw_below_drewN | apply below_drew1 | refine below_set ?_ GE373.out | refine below_set ?_ GE374.out) | exact HB.out)))); replace BK373 := bb BK373 hb; replace BK374 := bb BK374 hb; replace HB := bs hb; clear hb ho72; obtain ⟨Ao73, co73, eo73⟩ := Kd.R_slice HO377.out; subst eo73) | (go_at_call 81; (with_reducible refine (spec_l01Code.calls k a0 _ _ y375 t378 _ ?side1 ?side2 A4.out).mono ?_); (case side1 => repeat (first | exact (Kd.R_reads' HO377.out).2.2 | (with_reducible refine Kd.C_alloc ?_ _) | (with_reducible refine Kd.C_drewN ?_ _) | (with_reducible refine Kd.C_drew ?_))); (case side2 => exact (Kd.R_reads' HO377.out).2.1); rintro e w74 ⟨rfl, hb⟩; replace HO377 := Aside0.mk (Kd.R_below (by (with_reducible repeat (first | apply Kd.R_alloc | apply Kd.R_drewN | apply Kd.R_drew)); exact HO377.out) hb); replace BK373 := bb BK373 hb; replace BK374 := bb BK374 hb; replace HB := bs hb; (try clear hb); (try clear hb2); (try clear hk); (try clear hi); obtain ⟨hcz75_0, hcz75_1, hcz75_2, hfz75_0, hfz75_1, hfz75_2⟩ := c3 BK374))
  repeat (go_quiet (first | ((with_reducible refine gate_dst (N := 4) rfl ?_); refine bx (N := 4) (cs := #[.int .i64 a1_0, .int .i64 a1_1, .int .i64 a1_2]) (t := 27) ?_; intro gb373 hg w67 hbox hb; have BK373 := Aside0.mk (hbox); have GW373 := sg hg; have GE373 := sg hg; replace HB := bs hb; clear hb hbox hg) | ((with_reducible refine gate_dst (N := 6) rfl ?_); refine bx (N := 6) (cs := #[.int .i64 0, .int .i64 0, .int .i64 0]) (t := 27) ?_; intro gb374 hg w68 hbox hb; have BK374 := Aside0.mk (hbox); have GW374 := sg hg; have GE374 := sg hg; have NB373_374 := nl hg BK373; have NB374_373 := ng hg BK373; replace BK373 := bb BK373 hb; replace HB := bs hb; clear hb hbox hg; have hnb69 := NB373_374.out; have hnc69 := NB374_373.out; obtain ⟨hcz70_0, hcz70_1, hcz70_2, hfz70_0, hfz70_1, hfz70_2⟩ := c3 BK373) | ((with_reducible refine gate_dst (N := 15) rfl ?_); refine Kd.R_lit k27 _ 27 ?hg (N := 15) ?hd (xs := ([(⟨a1_0, a1_1, a1_2⟩ : S27)] : List (S27))) (inner := [.int .i64 a1_0, .int .i64 a1_1, .int .i64 a1_2]) (ok := fun _ => True) (okp := fun _ => True) ?hr ?hp (fun _ hk => hk) trivial (Below.refl _ _) (Nat.le_refl _) (by simp) ?_; (case hd => rfl); (case hg => rfl); (case hr => first | (go_simp; done) | (go_simp; rfl)); (case hp => exact (Reps.c3 (show Kd.M k27 _ _ _ (⟨a1_0, a1_1, a1_2⟩ : S27) [.int .i64 a1_0, .int .i64 a1_1, .int .i64 a1_2] from (k27_mkM _ _ _ (⟨a1_0, a1_1, a1_2⟩ : S27) )) (Reps.none _ _))); intro v376 w71 ho72 hb hg_ hnew_; clear hg_ hnew_; (first | rw [← Ny375.out] at ho72 | (simp only [Int.reduceToNat] at ho72; rw [← Ny375.out] at ho72)); have HO377 := Aside0.mk (Kd.R_lower (Kd.R_newB (Kd.R_newB ho72 (g := gb373) (o := .cells #[.int .i64 a1_0, .int .i64 a1_1, .int .i64 a1_2] 27 (0, 0)) (be BK373)) (g := gb374) (o := .cells #[.int .i64 0, .int .i64 0, .int .i64 0] 27 (0, 0)) (be BK374)) (below_size (by repeat (first | (with_reducible first | exact HB.out | apply below_alloc | apply pw_below_drewN | apply below_drew1 | refine below_set ?_ GE373.out | refine below_set ?_ GE374.out) | exact HB.out)))); replace BK373 := bb BK373 hb; replace BK374 := bb BK374 hb; replace HB := bs hb; clear hb ho72; obtain ⟨Ao73, co73, eo73⟩ := Kd.R_slice HO377.out; subst eo73) | (go_at_call 81; (with_reducible refine (spec_l01Code.calls k a0 _ _ y375 t378 _ ?side1 ?side2 A4.out).mono ?_); (case side1 => repeat (first | exact (Kd.R_reads' HO377.out).2.2 | (with_reducible refine Kd.C_alloc ?_ _) | (with_reducible refine Kd.C_drewN ?_ _) | (with_reducible refine Kd.C_drew ?_))); (case side2 => exact (Kd.R_reads' HO377.out).2.1); rintro e w74 ⟨rfl, hb⟩; replace HO377 := Aside0.mk (Kd.R_below (by (with_reducible repeat (first | apply Kd.R_alloc | apply Kd.R_drewN | apply Kd.R_drew)); exact HO377.out) hb); replace BK373 := bb BK373 hb; replace BK374 := bb BK374 hb; replace HB := bs hb; (try clear hb); (try clear hb2); (try clear hk); (try clear hi); obtain ⟨hcz75_0, hcz75_1, hcz75_2, hfz75_0, hfz75_1, hfz75_2⟩ := c3 BK374)); try go_wp2_with (first | ((with_reducible refine gate_dst (N := 4) rfl ?_); refine bx (N := 4) (cs := #[.int .i64 a1_0, .int .i64 a1_1, .int .i64 a1_2]) (t := 27) ?_; intro gb373 hg w67 hbox hb; have BK373 := Aside0.mk (hbox); have GW373 := sg hg; have GE373 := sg hg; replace HB := bs hb; clear hb hbox hg) | ((with_reducible refine gate_dst (N := 6) rfl ?_); refine bx (N := 6) (cs := #[.int .i64 0, .int .i64 0, .int .i64 0]) (t := 27) ?_; intro gb374 hg w68 hbox hb; have BK374 := Aside0.mk (hbox); have GW374 := sg hg; have GE374 := sg hg; have NB373_374 := nl hg BK373; have NB374_373 := ng hg BK373; replace BK373 := bb BK373 hb; replace HB := bs hb; clear hb hbox hg; have hnb69 := NB373_374.out; have hnc69 := NB374_373.out; obtain ⟨hcz70_0, hcz70_1, hcz70_2, hfz70_0, hfz70_1, hfz70_2⟩ := c3 BK373) | ((with_reducible refine gate_dst (N := 15) rfl ?_); refine Kd.R_lit k27 _ 27 ?hg (N := 15) ?hd (xs := ([(⟨a1_0, a1_1, a1_2⟩ : S27)] : List (S27))) (inner := [.int .i64 a1_0, .int .i64 a1_1, .int .i64 a1_2]) (ok := fun _ => True) (okp := fun _ => True) ?hr ?hp (fun _ hk => hk) trivial (Below.refl _ _) (Nat.le_refl _) (by simp) ?_; (case hd => rfl); (case hg => rfl); (case hr => first | (go_simp; done) | (go_simp; rfl)); (case hp => exact (Reps.c3 (show Kd.M k27 _ _ _ (⟨a1_0, a1_1, a1_2⟩ : S27) [.int .i64 a1_0, .int .i64 a1_1, .int .i64 a1_2] from (k27_mkM _ _ _ (⟨a1_0, a1_1, a1_2⟩ : S27) )) (Reps.none _ _))); intro v376 w71 ho72 hb hg_ hnew_; clear hg_ hnew_; (first | rw [← Ny375.out] at ho72 | (simp only [Int.reduceToNat] at ho72; rw [← Ny375.out] at ho72)); have HO377 := Aside0.mk (Kd.R_lower (Kd.R_newB (Kd.R_newB ho72 (g := gb373) (o := .cells #[.int .i64 a1_0, .int .i64 a1_1, .int .i64 a1_2] 27 (0, 0)) (be BK373)) (g := gb374) (o := .cells #[.int .i64 0, .int .i64 0, .int .i64 0] 27 (0, 0)) (be BK374)) (below_size (by repeat (first | (with_reducible first | exact HB.out | apply below_alloc | apply pw_below_drewN | apply below_drew1 | refine below_set ?_ GE373.out | refine below_set ?_ GE374.out) | exact HB.out)))); replace BK373 := bb BK373 hb; replace BK374 := bb BK374 hb; replace HB := bs hb; clear hb ho72; obtain ⟨Ao73, co73, eo73⟩ := Kd.R_slice HO377.out; subst eo73) | (go_at_call 81; (with_reducible refine (spec_l01Code.calls k a0 _ _ y375 t378 _ ?side1 ?side2 A4.out).mono ?_); (case side1 => repeat (first | exact (Kd.R_reads' HO377.out).2.2 | (with_reducible refine Kd.C_alloc ?_ _) | (with_reducible refine Kd.C_drewN ?_ _) | (with_reducible refine Kd.C_drew ?_))); (case side2 => exact (Kd.R_reads' HO377.out).2.1); rintro e w74 ⟨rfl, hb⟩; replace HO377 := Aside0.mk (Kd.R_below (by (with_reducible repeat (first | apply Kd.R_alloc | apply Kd.R_drewN | apply Kd.R_drew)); exact HO377.out) hb); replace BK373 := bb BK373 hb; replace BK374 := bb BK374 hb; replace HB := bs hb; (try clear hb); (try clear hb2); (try clear hk); (try clear hi); obtain ⟨hcz75_0, hcz75_1, hcz75_2, hfz75_0, hfz75_1, hfz75_2⟩ := c3 BK374)))
  refine bodyPost_ret (results_ct rfl _ _ gb374 27 #[.int .i64 0, .int .i64 0, .int .i64 0] (0, 0) _ rfl (by (with_reducible repeat (first | apply bn | apply bd | apply ba)); refine blk_put (cs := #[.int .i64 0, .int .i64 0, .int .i64 0]) ?_ 2 _ rfl; (with_reducible repeat (first | apply bn | apply bd | apply ba)); refine blk_put (cs := #[.int .i64 0, .int .i64 0, .int .i64 0]) ?_ 1 _ rfl; (with_reducible repeat (first | apply bn | apply bd | apply ba)); refine blk_put (cs := #[.int .i64 0, .int .i64 0, .int .i64 0]) ?_ 0 _ rfl; (with_reducible repeat (first | apply bn | apply bd | apply ba)); exact BK374.out) Try.underlying27 rfl (by kernel_rfl)) rfl ?_
  exact ⟨by first | rfl | (simp [errW_none, errW_some] <;> rfl) | (simp [*, errW_none, errW_some] <;> rfl), by repeat (first | (with_reducible first | exact HB.out | apply below_alloc | apply pw_below_drewN | apply below_drew1 | refine below_set ?_ GE373.out | refine below_set ?_ GE374.out) | exact HB.out)⟩

/-! ### spec_DrawOppositeBall: function 28 -/
def spec_DrawOppositeBall.f (k : Nat) (l0 : List Int) : Option (Int × Int × Int × Int) := (spec_l01From.f k l0).bind fun bt388 => ((spec_l01Spoil.f k bt388.1 bt388.2.1 bt388.2.2).bind fun bt392 => (some (bt392.1, bt392.2.1, bt392.2.2.1, bt392.2.2.2.1)))
theorem spec_DrawOppositeBall.mono : ∀ a0 k, LeO (spec_DrawOppositeBall.f k a0) (spec_DrawOppositeBall.f (k + 1) a0) := by
 intro a0 k
 unfold spec_DrawOppositeBall.f
 repeat' first
   | (with_reducible exact spec_l01From.mono _ _)
   | (with_reducible exact spec_l01Spoil.mono _ _ _ _)
   | (with_reducible exact LeO.refl _)
   | (with_reducible exact LeO.none _)
   | (with_reducible refine LeO.ite ?_ ?_)
   | (with_reducible refine LeO.bind ?_ (fun _ => ?_))
   | refine LeO.ite ?_ ?_
   | refine LeO.bind ?_ (fun _ => ?_)
set_option maxHeartbeats 8000000 in
set_option maxRecDepth 100000 in
theorem spec_DrawOppositeBall.calls (k : Nat) (A0 : Option Addr) (c0 : Nat) (l0 : List Int) (r1 : Int) (r2 : Int) (r3 : Int) (r4 : Int) (w : World) (hr0 : Kd.C (Kd.int .u8) w A0 l0.length l0) (hc0 : l0.length ≤ c0) (h : spec_DrawOppositeBall.f k l0 = some (r1, r2, r3, r4)) :
  Calls Try.prog 28 #[.slice A0 l0.length c0] w fun e w' => e = .returned (.tuple #[.int .i64 r1, .agg #[.int .i64 r2, .int .i64 r3, .int .i64 r4]]) ∧ Below w.heap.size w w' := by
 have hu27 := Try.underlying27
 have HR0 := Aside0.mk hr0
 have HC0 := Aside0.mk hc0
 clear hr0 hc0
 have HB := Aside0.mk (Below.refl w.heap.size w)
 have H : ((spec_l01From.f k l0).bind fun bt388 => ((spec_l01Spoil.f k bt388.1 bt388.2.1 bt388.2.2).bind fun bt392 => (some (bt392.1, bt392.2.1, bt392.2.2.1, bt392.2.2.2.1)))) = some (r1, r2, r3, r4) := h
 clear h
 replace H := Option.bind_eq_some_iff.mp H
 obtain ⟨⟨t388, t389, t390⟩, A20, H⟩ := H
 replace H : ((spec_l01Spoil.f k t388 t389 t390).bind fun bt392 => (some (bt392.1, bt392.2.1, bt392.2.2.1, bt392.2.2.2.1))) = some (r1, r2, r3, r4) := H
 have A2 := Aside0.mk A20
 clear A20
 replace H := Option.bind_eq_some_iff.mp H
 obtain ⟨⟨t392, t393, t394, t395, t396, t397⟩, A30, H⟩ := H
 replace H : (some (t392, t393, t394, t395)) = some (r1, r2, r3, r4) := H
 have A3 := Aside0.mk A30
 clear A30
 simp only [Option.some.injEq, Prod.mk.injEq] at H
 obtain ⟨rfl, rfl, rfl, rfl⟩ := H
 go_enter Try.func28, Try.ntmps28
 try go_wp2_with (first | ((with_reducible refine gate_dst (N := 3) rfl ?_); refine bx (N := 3) (cs := #[.int .i64 0, .int .i64 0, .int .i64 0]) (t := 27) ?_; intro gb387 hg w4 hbox hb; have BK387 := Aside0.mk (hbox); have GW387 := sg hg; have GE387 := sg hg; replace HB := bs hb; clear hb hbox hg) | ((with_reducible refine gate_callee (f := 98) rfl ?_); refine g1 (some 8) Try.func98 #[.slice A0 l0.length c0] ?_; (with_reducible refine (spec_l01From.calls k _ _ l0 t388 t389 t390 w _ ?side1 ?side2 ?side3 A2.out).mono ?_); (case side1 => repeat (first | (with_reducible first | exact HB.out | apply below_alloc | apply pw_below_drewN | apply below_drew1 | refine below_set ?_ GE387.out) | exact HB.out)); (case side2 => exact HR0.out); (case side3 => exact HC0.out); rintro e w5 ⟨g391, rfl, hi, hb, hb2⟩; refine ⟨_, rfl, ?_⟩; have HI391 := Aside0.mk (hi); have NB391_387 := Aside0.mk (IsS127.ne_blk hi (blk_below (g := gb387) (o := .cells #[.int .i64 0, .int .i64 0, .int .i64 0] 27 (0, 0)) (be BK387) hb2) (by decide)); have NB387_391 := Aside0.mk (Ne.symm (IsS127.ne_blk hi (blk_below (g := gb387) (o := .cells #[.int .i64 0, .int .i64 0, .int .i64 0] 27 (0, 0)) (be BK387) hb2) (by decide))); replace BK387 := Aside0.mk (blk_below (g := gb387) (o := .cells #[.int .i64 0, .int .i64 0, .int .i64 0] 27 (0, 0)) (be BK387) hb2); replace HB := Aside0.mk (hb); (try clear hb); (try clear hb2); (try clear hk); (try clear hi)) | ((with_reducible refine gate_callee (f := 99) rfl ?_); refine g1 (some 9) Try.func99 #[.pointer (some ⟨g391, 0, none⟩)] ?_; (with_reducible refine (spec_l01Spoil.calls k g391 t388 t389 t390 t392 t393 t394 t395 t396 t397 w _ ?side1 ?side2 A3.out).mono ?_); (case side1 => repeat (first | (with_reducible first | exact HI391.out | apply IsS127.alloc | apply IsS127.drewN | apply IsS127.drew | apply IsS127.set_1 | apply IsS127.set_2 | refine IsS127.far ?_ NB391_387.out _) | exact HI391.out)); (case side2 => repeat (first | (with_reducible first | exact HB.out | apply below_alloc | apply pw_below_drewN | apply below_drew1 | refine below_set ?_ (IsS127.ge HI391.out) | refine below_set ?_ GE387.out) | exact HB.out)); rintro e w6 ⟨rfl, hi, hb, hk⟩; refine ⟨_, rfl, ?_⟩; replace BK387 := Aside0.mk (KeepBut.blk hk (g' := gb387) (o := .cells #[.int .i64 0, .int .i64 0, .int .i64 0] 27 (0, 0)) (be BK387) NB387_391.out (by simp)); replace HI391 := Aside0.mk (hi); replace HB := Aside0.mk (hb); (try clear hb); (try clear hb2); (try clear hk); (try clear hi)) | ((with_reducible refine gate_dst (N := 5) rfl ?_); refine bx (N := 5) (cs := #[.int .i64 0, .int .i64 0, .int .i64 0]) (t := 27) ?_; intro gb398 hg w7 hbox hb; have BK398 := Aside0.mk (hbox); have GW398 := Aside0.mk ((by rw [hg]; exact (below_size (by repeat (first | (with_reducible first | exact HB.out | apply below_alloc | apply pw_below_drewN | apply below_drew1 | refine below_set ?_ (IsS127.ge HI391.out) | refine below_set ?_ GE387.out) | exact HB.out))) : w.heap.size ≤ gb398)); have GE398 := Aside0.mk ((by rw [hg]; exact (below_size (by repeat (first | (with_reducible first | exact HB.out | apply below_alloc | apply pw_below_drewN | apply below_drew1 | refine below_set ?_ (IsS127.ge HI391.out) | refine below_set ?_ GE387.out) | exact HB.out))) : w.heap.size ≤ gb398)); have NB387_398 := nl hg BK387; have NB398_387 := ng hg BK387; have NB391_398 := Aside0.mk ((by rw [hg]; exact Nat.ne_of_lt (IsS127.lt (show IsS127 w _ g391 t388 t396 t397 from by repeat (first | (with_reducible first | exact HI391.out | apply IsS127.alloc | apply IsS127.drewN | apply IsS127.drew | apply IsS127.set_1 | apply IsS127.set_2 | refine IsS127.far ?_ NB391_387.out _) | exact HI391.out))) : g391 ≠ gb398)); have NB398_391 := Aside0.mk ((by rw [hg]; exact Nat.ne_of_gt (IsS127.lt (show IsS127 w _ g391 t388 t396 t397 from by repeat (first | (with_reducible first | exact HI391.out | apply IsS127.alloc | apply IsS127.drewN | apply IsS127.drew | apply IsS127.set_1 | apply IsS127.set_2 | refine IsS127.far ?_ NB391_387.out _) | exact HI391.out))) : gb398 ≠ g391)); replace BK387 := bb BK387 hb; replace HB := Aside0.mk (below_step (by repeat (first | (with_reducible first | exact HB.out | apply below_alloc | apply pw_below_drewN | apply below_drew1 | refine below_set ?_ (IsS127.ge HI391.out) | refine below_set ?_ GE387.out) | exact HB.out)) hb); replace HI391 := Aside0.mk (IsS127.below (by repeat (first | (with_reducible first | exact HI391.out | apply IsS127.alloc | apply IsS127.drewN | apply IsS127.drew | apply IsS127.set_1 | apply IsS127.set_2 | refine IsS127.far ?_ NB391_387.out _) | exact HI391.out)) hb); clear hb hbox hg; have hnb8 := NB398_387.out; have hnc8 := NB387_398.out; have hnb9 := NB398_391.out; have hnc9 := NB391_398.out; obtain ⟨hcz10_0, hcz10_1, hcz10_2, hfz10_0, hfz10_1, hfz10_2⟩ := c3 BK398))
 have n0_ : Aside0 ((((w7.setCell ⟨gb398, 0, none⟩ (.int .i64 t393)).setCell ⟨gb398, 1, none⟩ (.int .i64 t394)).setCell ⟨gb398, 2, none⟩ (.int .i64 t395)).heap[gb387]? = some (.cells #[.int .i64 0, .int .i64 0, .int .i64 0] 27 (0, 0))) := ⟨by (with_reducible repeat (first | apply bn | apply bd | apply ba)); refine blk_far ?_ NB387_398.out _; (with_reducible repeat (first | apply bn | apply bd | apply ba)); refine blk_far ?_ NB387_398.out _; (with_reducible repeat (first | apply bn | apply bd | apply ba)); refine blk_far ?_ NB387_398.out _; (with_reducible repeat (first | apply bn | apply bd | apply ba)); exact BK387.out⟩
 have n1_ : Aside0 ((((w7.setCell ⟨gb398, 0, none⟩ (.int .i64 t393)).setCell ⟨gb398, 1, none⟩ (.int .i64 t394)).setCell ⟨gb398, 2, none⟩ (.int .i64 t395)).heap[gb398]? = some (.cells #[.int .i64 t393, .int .i64 t394, .int .i64 t395] 27 (0, 0))) := ⟨by (with_reducible repeat (first | apply bn | apply bd | apply ba)); refine blk_put (cs := #[.int .i64 t393, .int .i64 t394, .int .i64 0]) ?_ 2 _ rfl; (with_reducible repeat (first | apply bn | apply bd | apply ba)); refine blk_put (cs := #[.int .i64 t393, .int .i64 0, .int .i64 0]) ?_ 1 _ rfl; (with_reducible repeat (first | apply bn | apply bd | apply ba)); refine blk_put (cs := #[.int .i64 0, .int .i64 0, .int .i64 0]) ?_ 0 _ rfl; (with_reducible repeat (first | apply bn | apply bd | apply ba)); exact BK398.out⟩
 have n2_ : Aside0 (IsS127 w (((w7.setCell ⟨gb398, 0, none⟩ (.int .i64 t393)).setCell ⟨gb398, 1, none⟩ (.int .i64 t394)).setCell ⟨gb398, 2, none⟩ (.int .i64 t395)) g391 t388 t396 t397) := ⟨by repeat (first | (with_reducible first | exact HI391.out | apply IsS127.alloc | apply IsS127.drewN | apply IsS127.drew | apply IsS127.set_1 | apply IsS127.set_2 | refine IsS127.far ?_ NB391_387.out _ | refine IsS127.far ?_ NB391_398.out _) | exact HI391.out)⟩
 have n3_ : Aside0 (Below w.heap.size w (((w7.setCell ⟨gb398, 0, none⟩ (.int .i64 t393)).setCell ⟨gb398, 1, none⟩ (.int .i64 t394)).setCell ⟨gb398, 2, none⟩ (.int .i64 t395))) := ⟨by repeat (first | (with_reducible first | exact HB.out | apply below_alloc | apply pw_below_drewN | apply below_drew1 | refine below_set ?_ (IsS127.ge HI391.out) | refine below_set ?_ GE387.out | refine below_set ?_ GE398.out) | exact HB.out)⟩
 (try clear BK387)
 (try clear BK398)
 (try clear HI391)
 (try clear HB)
 generalize (((w7.setCell ⟨gb398, 0, none⟩ (.int .i64 t393)).setCell ⟨gb398, 1, none⟩ (.int .i64 t394)).setCell ⟨gb398, 2, none⟩ (.int .i64 t395)) = w11 at n0_ n1_ n2_ n3_ ⊢
 have BK387 := n0_
 have BK398 := n1_
 have HI391 := n2_
 have HB := n3_
 clear n0_ n1_ n2_ n3_
 have n0_ := Aside0.mk (blk_drew BK387.out)
 have n1_ := Aside0.mk (blk_drew BK398.out)
 have n2_ := Aside0.mk (IsS127.drew HI391.out)
 have n3_ := Aside0.mk (below_drew1 HB.out)
 clear BK387
 clear BK398
 clear HI391
 clear HB
 have BK387 := n0_
 have BK398 := n1_
 have HI391 := n2_
 have HB := n3_
 clear n0_ n1_ n2_ n3_
 refine start_ (n := 4) (S := fun w' => w'.cell? ⟨gb398, 0, none⟩ = some (.int .i64 t393) ∧ w'.cell? ⟨gb398, 1, none⟩ = some (.int .i64 t394) ∧ w'.cell? ⟨gb398, 2, none⟩ = some (.int .i64 t395)) (ds := []) #[false, false, false, false] (by kernel_rfl) rfl rfl ⟨(blk_cell BK398.out 0).trans rfl, (blk_cell BK398.out 1).trans rfl, (blk_cell BK398.out 2).trans rfl⟩ (fun hHeld => ?_)
 generalize w11.drew = w12 at BK387 BK398 HI391 HB hHeld ⊢
 refine pure_ (i := 0) (N := some 12) (v := ?_) (a' := ?_) #[true, false, false, false] rfl rfl (by kernel_rfl) (fun _ _ _ h => h) (Or.inl ⟨by rfl, ?_⟩) ?_ ?_
 rotate_left
 ·intro w'
  go_simp
  with_reducible rfl
 rotate_left
 ·simp only [Act.put, List.setIfInBounds_toArray, List.set_cons_zero, List.set_cons_succ, i64_w, i32_w]
  rfl
 refine pure_ (i := 2) (N := some 2) (v := ?_) (a' := ?_) #[true, false, true, false] rfl rfl (by kernel_rfl) (fun _ _ _ h => h) (Or.inl ⟨by rfl, ?_⟩) ?_ ?_
 rotate_left
 ·intro w'
  go_simp
  with_reducible rfl
 rotate_left
 ·simp only [Act.put, List.setIfInBounds_toArray, List.set_cons_zero, List.set_cons_succ, i64_w, i32_w]
  rfl
 refine take_ (i := 1) (N := some 13) (v := ?_) (a' := ?_) #[true, true, true, false] rfl rfl (by kernel_rfl) (fun _ _ _ h => h) (Or.inl ⟨by rfl, ?_⟩) hHeld ?_ ?_
 rotate_left
 ·rintro w' ⟨s0, s1, s2⟩
  go_simp
  with_reducible rfl
 rotate_left
 ·simp only [Act.put, List.setIfInBounds_toArray, List.set_cons_zero, List.set_cons_succ, i64_w, i32_w]
  rfl
 refine one_ (i := 3) (N := none) #[true, true, true, true] rfl rfl (by kernel_rfl) (by decide) (fun K hK => ?_)
 have hs13 : w12.cell? ⟨gb387, 0, none⟩ = some (.int .i64 0) := (blk_cell BK387.out 0).trans rfl
 have hfs13 := blk_frozen BK387.out 0
 have hns13_1 := NB398_387.out
 have hms13_1 := NB387_398.out
 have hs14 : w12.cell? ⟨gb387, 1, none⟩ = some (.int .i64 0) := (blk_cell BK387.out 1).trans rfl
 have hfs14 := blk_frozen BK387.out 1
 have hns14_1 := NB398_387.out
 have hms14_1 := NB387_398.out
 have hs15 : w12.cell? ⟨gb387, 2, none⟩ = some (.int .i64 0) := (blk_cell BK387.out 2).trans rfl
 have hfs15 := blk_frozen BK387.out 2
 have hns15_1 := NB398_387.out
 have hms15_1 := NB387_398.out
 refine skip_ (w1 := ?_) (by rfl) rfl ?_ ?_
 rotate_left
 ·go_simp
  rfl
 refine hK.out _ _ ⟨((cell_far (p := ⟨gb387, _, none⟩) NB398_387.out _).trans (((cell_far (p := ⟨gb387, _, none⟩) NB398_387.out _).trans (((cell_far (p := ⟨gb387, _, none⟩) NB398_387.out _).trans (hHeld.1)))))), ((cell_far (p := ⟨gb387, _, none⟩) NB398_387.out _).trans (((cell_far (p := ⟨gb387, _, none⟩) NB398_387.out _).trans (((cell_far (p := ⟨gb387, _, none⟩) NB398_387.out _).trans (hHeld.2.1)))))), ((cell_far (p := ⟨gb387, _, none⟩) NB398_387.out _).trans (((cell_far (p := ⟨gb387, _, none⟩) NB398_387.out _).trans (((cell_far (p := ⟨gb387, _, none⟩) NB398_387.out _).trans (hHeld.2.2))))))⟩ (fun hHeld => ?_)
 clear hK K
 refine done_ (by kernel_rfl) ?_
 try go_wp2
 refine bodyPost_ret (results_tc rfl _ _ gb387 27 #[.int .i64 t393, .int .i64 t394, .int .i64 t395] (0, 0) _ rfl (by (with_reducible repeat (first | apply bn | apply bd | apply ba)); refine blk_put (cs := #[.int .i64 t393, .int .i64 t394, .int .i64 0]) ?_ 2 _ rfl; (with_reducible repeat (first | apply bn | apply bd | apply ba)); refine blk_put (cs := #[.int .i64 t393, .int .i64 0, .int .i64 0]) ?_ 1 _ rfl; (with_reducible repeat (first | apply bn | apply bd | apply ba)); refine blk_put (cs := #[.int .i64 0, .int .i64 0, .int .i64 0]) ?_ 0 _ rfl; (with_reducible repeat (first | apply bn | apply bd | apply ba)); exact BK387.out) Try.underlying27 rfl (by kernel_rfl)) rfl ?_
 exact ⟨by first | rfl | (simp [errW_none, errW_some] <;> rfl) | (simp [*, errW_none, errW_some] <;> rfl), by repeat (first | (with_reducible first | exact HB.out | apply below_alloc | apply pw_below_drewN | apply below_drew1 | refine below_set ?_ (IsS127.ge HI391.out) | refine below_set ?_ GE387.out | refine below_set ?_ GE398.out) | exact HB.out)⟩

/-! ### impl_OppositeBall: function 29 -/
def impl_OppositeBall.f (k : Nat) (a0 : Int) (a1_0 : Int) (a1_1 : Int) (a1_2 : Int) : Option (Int × Int × Int × Int) := (impl_IsBall.f k a0 a1_0 a1_1 a1_2).bind fun t401 => (if t401 = true then ((impl_mark.f k a0 a1_0 a1_1 a1_2).bind fun t402 => ((impl_ofMark.f k a0 a1_0 (wrap64 (-t402))).bind fun bt403 => ((impl_fitted.f bt403.1 bt403.2.1 bt403.2.2.1 bt403.2.2.2).bind fun bt407 => (some (bt407.1, bt407.2.1, bt407.2.2.1, bt407.2.2.2))))) else (some (0, 0, 0, 1)))
theorem impl_OppositeBall.mono : ∀ a0 a1 a2 a3 k, LeO (impl_OppositeBall.f k a0 a1 a2 a3) (impl_OppositeBall.f (k + 1) a0 a1 a2 a3) := by
 intro a0 a1 a2 a3 k
 unfold impl_OppositeBall.f
 repeat' first
   | (with_reducible exact impl_IsBall.mono _ _ _ _ _)
   | (with_reducible exact impl_mark.mono _ _ _ _ _)
   | (with_reducible exact impl_ofMark.mono _ _ _ _)
   | (with_reducible exact LeO.refl _)
   | (with_reducible exact LeO.none _)
   | (with_reducible refine LeO.ite ?_ ?_)
   | (with_reducible refine LeO.bind ?_ (fun _ => ?_))
   | refine LeO.ite ?_ ?_
   | refine LeO.bind ?_ (fun _ => ?_)
def impl_OppositeBall.T3 : Bool × List (List Nat × List Nat) := (true, [([], []), ([], []), ([1], [1]), ([], []), ([], []), ([3, 4], [3, 4]), ([5], [5]), ([0, 2, 6, 5], [0, 2, 6]), ([7], [7]), ([7], [7]), ([8, 9, 7], [8, 9]), ([10], [10]), ([10], [10]), ([11, 10, 0, 1, 2, 3, 4, 5, 6, 7, 8, 9, 10, 11, 12], [11]), ([12, 13, 0, 1, 2, 3, 4, 5, 6, 7, 8, 9, 10, 11, 12, 13], [12])])
def impl_OppositeBall.B3 : List Nat := [0, 0, 2, 0, 0, 24, 56, 127, 255, 255, 1023, 2047, 2047, 8191, 16383]
theorem impl_OppositeBall.tab3 : rtab .any (opsOf Try.f29 3) = impl_OppositeBall.T3 := by kernel_rfl
theorem impl_OppositeBall.bits3 : waitsOk impl_OppositeBall.T3.2 impl_OppositeBall.B3 = true := by kernel_rfl
set_option maxHeartbeats 8000000 in
set_option maxRecDepth 100000 in
theorem impl_OppositeBall.calls (k : Nat) (a0 : Int) (a1_0 : Int) (a1_1 : Int) (a1_2 : Int) (r1 : Int) (r2 : Int) (r3 : Int) (r4 : Int) (w : World) (h : impl_OppositeBall.f k a0 a1_0 a1_1 a1_2 = some (r1, r2, r3, r4)) :
  Calls Try.prog 29 #[.int .i64 a0, .agg #[.int .i64 a1_0, .int .i64 a1_1, .int .i64 a1_2]] w fun e w' => e = .returned (.tuple #[.agg #[.int .i64 r1, .int .i64 r2, .int .i64 r3], .int .i64 r4]) ∧ Below w.heap.size w w' := by
 have hu27 := Try.underlying27
 have HB := Aside0.mk (Below.refl w.heap.size w)
 have H : ((impl_IsBall.f k a0 a1_0 a1_1 a1_2).bind fun t401 => (if t401 = true then ((impl_mark.f k a0 a1_0 a1_1 a1_2).bind fun t402 => ((impl_ofMark.f k a0 a1_0 (wrap64 (-t402))).bind fun bt403 => ((impl_fitted.f bt403.1 bt403.2.1 bt403.2.2.1 bt403.2.2.2).bind fun bt407 => (some (bt407.1, bt407.2.1, bt407.2.2.1, bt407.2.2.2))))) else (some (0, 0, 0, 1)))) = some (r1, r2, r3, r4) := h
 clear h
 replace H := Option.bind_eq_some_iff.mp H
 obtain ⟨t401, A30, H⟩ := H
 replace H : (if t401 = true then ((impl_mark.f k a0 a1_0 a1_1 a1_2).bind fun t402 => ((impl_ofMark.f k a0 a1_0 (wrap64 (-t402))).bind fun bt403 => ((impl_fitted.f bt403.1 bt403.2.1 bt403.2.2.1 bt403.2.2.2).bind fun bt407 => (some (bt407.1, bt407.2.1, bt407.2.2.1, bt407.2.2.2))))) else (some (0, 0, 0, 1))) = some (r1, r2, r3, r4) := H
 have A3 := Aside0.mk A30
 clear A30
 by_cases c4 : t401 = true
 ·subst c4
  have H1 : ((impl_mark.f k a0 a1_0 a1_1 a1_2).bind fun t402 => ((impl_ofMark.f k a0 a1_0 (wrap64 (-t402))).bind fun bt403 => ((impl_fitted.f bt403.1 bt403.2.1 bt403.2.2.1 bt403.2.2.2).bind fun bt407 => (some (bt407.1, bt407.2.1, bt407.2.2.1, bt407.2.2.2))))) = some (r1, r2, r3, r4) := by rw [if_pos rfl] at H; exact H
  clear H
  have H := H1
  clear H1
  replace H := Option.bind_eq_some_iff.mp H
  obtain ⟨t402, A50, H⟩ := H
  replace H : ((impl_ofMark.f k a0 a1_0 (wrap64 (-t402))).bind fun bt403 => ((impl_fitted.f bt403.1 bt403.2.1 bt403.2.2.1 bt403.2.2.2).bind fun bt407 => (some (bt407.1, bt407.2.1, bt407.2.2.1, bt407.2.2.2)))) = some (r1, r2, r3, r4) := H
  have A5 := Aside0.mk A50
  clear A50
  replace H := Option.bind_eq_some_iff.mp H
  obtain ⟨⟨t403, t404, t405, t406⟩, A60, H⟩ := H
  replace H : ((impl_fitted.f t403 t404 t405 t406).bind fun bt407 => (some (bt407.1, bt407.2.1, bt407.2.2.1, bt407.2.2.2))) = some (r1, r2, r3, r4) := H
  have A6 := Aside0.mk A60
  clear A60
  replace H := Option.bind_eq_some_iff.mp H
  obtain ⟨⟨t407, t408, t409, t410⟩, A70, H⟩ := H
  replace H : (some (t407, t408, t409, t410)) = some (r1, r2, r3, r4) := H
  have A7 := Aside0.mk A70
  clear A70
  simp only [Option.some.injEq, Prod.mk.injEq] at H
  obtain ⟨rfl, rfl, rfl, rfl⟩ := H
  go_enter Try.func29, Try.ntmps29
  try go_wp2_with (first | ((with_reducible refine gate_dst (N := 3) rfl ?_); refine bx (N := 3) (cs := #[.int .i64 a1_0, .int .i64 a1_1, .int .i64 a1_2]) (t := 27) ?_; intro gb399 hg w8 hbox hb; have BK399 := Aside0.mk (hbox); have GW399 := sg hg; have GE399 := sg hg; replace HB := bs hb; clear hb hbox hg) | ((with_reducible refine gate_dst (N := 4) rfl ?_); refine bx (N := 4) (cs := #[.int .i64 0, .int .i64 0, .int .i64 0]) (t := 27) ?_; intro gb400 hg w9 hbox hb; have BK400 := Aside0.mk (hbox); have GW400 := sg hg; have GE400 := sg hg; have NB399_400 := nl hg BK399; have NB400_399 := ng hg BK399; replace BK399 := bb BK399 hb; replace HB := bs hb; clear hb hbox hg; have hnb10 := NB399_400.out; have hnc10 := NB400_399.out; obtain ⟨hcz11_0, hcz11_1, hcz11_2, hfz11_0, hfz11_1, hfz11_2⟩ := c3 BK399) | ((with_reducible refine gate_callee (f := 65) rfl ?_); refine g1 (some 8) Try.func65 #[.int .i64 a0, .agg #[.int .i64 a1_0, .int .i64 a1_1, .int .i64 a1_2]] ?_; (with_reducible refine (impl_IsBall.calls k a0 a1_0 a1_1 a1_2 true _ A3.out).mono ?_); rintro e w12 ⟨rfl, hb⟩; refine ⟨_, rfl, ?_⟩; replace BK399 := bb BK399 hb; replace BK400 := bb BK400 hb; replace HB := bs hb; (try clear hb); (try clear hb2); (try clear hk); (try clear hi)))
  have n0_ := Aside0.mk (blk_drew BK399.out)
  have n1_ := Aside0.mk (blk_drew BK400.out)
  have n2_ := Aside0.mk (below_drew1 HB.out)
  clear BK399
  clear BK400
  clear HB
  have BK399 := n0_
  have BK400 := n1_
  have HB := n2_
  clear n0_ n1_ n2_
  refine start_ (n := 15) (S := fun w' => w'.cell? ⟨gb399, 0, none⟩ = some (.int .i64 a1_0) ∧ w'.cell? ⟨gb399, 1, none⟩ = some (.int .i64 a1_1) ∧ w'.cell? ⟨gb399, 2, none⟩ = some (.int .i64 a1_2)) (ds := []) #[false, false, false, false, false, false, false, false, false, false, false, false, false, false, false] (by kernel_rfl) rfl rfl ⟨(blk_cell BK399.out 0).trans rfl, (blk_cell BK399.out 1).trans rfl, (blk_cell BK399.out 2).trans rfl⟩ (fun hHeld => ?_); refine with_tabW impl_OppositeBall.tab3 impl_OppositeBall.bits3 (fun HT_ HW_ => ?_)
  generalize w12.drew = w13 at BK399 BK400 HB hHeld ⊢
  refine pu 0 (some 11) #[true, false, false, false, false, false, false, false, false, false, false, false, false, false, false] HT_ ?_
  refine pu 1 (some 12) #[true, true, false, false, false, false, false, false, false, false, false, false, false, false, false] HT_ ?_
  refine pu 3 (some 14) #[true, true, false, true, false, false, false, false, false, false, false, false, false, false, false] HT_ ?_
  refine take_ (i := 2) (N := some 13) (v := ?_) (a' := ?_) #[true, true, true, true, false, false, false, false, false, false, false, false, false, false, false] rfl rfl (take_ofW HT_.out HW_.out (by kernel_rfl)) (fun _ _ _ h => h) (Or.inl ⟨by rfl, ?_⟩) hHeld ?_ ?_
  rotate_left
  ·rintro w' ⟨s0, s1, s2⟩
   go_simp
   with_reducible rfl
  rotate_left
  ·simp only [Act.put, List.setIfInBounds_toArray, List.set_cons_zero, List.set_cons_succ, i64_w, i32_w]
   rfl
  refine take_ (i := 4) (N := some 15) (v := ?_) (a' := ?_) #[true, true, true, true, true, false, false, false, false, false, false, false, false, false, false] rfl rfl (take_ofW HT_.out HW_.out (by kernel_rfl)) (fun _ _ _ h => h) (Or.inl ⟨by rfl, ?_⟩) hHeld ?_ ?_
  rotate_left
  ·rintro w' ⟨s0, s1, s2⟩
   go_simp
   with_reducible rfl
  rotate_left
  ·simp only [Act.put, List.setIfInBounds_toArray, List.set_cons_zero, List.set_cons_succ, i64_w, i32_w]
   rfl
  refine one_ (i := 5) (N := some 16) #[true, true, true, true, true, true, false, false, false, false, false, false, false, false, false] rfl rfl (one_of HT_.out (by kernel_rfl)) (by decide) (fun K hK => ?_)
  refine goes_ Try.func95 (by kernel_rfl) rfl #[.int .i64 a0, .agg #[.int .i64 a1_0, .int .i64 a1_1, .int .i64 a1_2]] (by rfl) rfl rfl (by (try simp only [List.map_toArray, List.map_cons, List.map_nil]); first | done | rfl | (simp only [List.length_drop, List.length_take]; rfl)) ?_
  with_reducible refine (impl_mark.calls k a0 a1_0 a1_1 a1_2 t402 _ A5.out).mono ?_
  rintro e w14 ⟨rfl, hb⟩
  refine ⟨_, rfl, ?_⟩
  have n0_ := bb BK399 hb
  have n1_ := bb BK400 hb
  have n2_ := Aside0.mk (below_step (by repeat (first | (with_reducible first | exact HB.out | apply below_alloc | apply pw_below_drewN | apply below_drew1 | refine below_set ?_ GE399.out | refine below_set ?_ GE400.out) | exact HB.out)) hb)
  clear BK399
  clear BK400
  clear HB
  have BK399 := n0_
  have BK400 := n1_
  have HB := n2_
  clear n0_ n1_ n2_
  (try clear hb)
  (try clear hb2)
  (try clear hk)
  (try clear hi)
  refine hK.out _ _ ⟨(blk_cell BK399.out 0).trans rfl, (blk_cell BK399.out 1).trans rfl, (blk_cell BK399.out 2).trans rfl⟩ (fun hHeld => ?_)
  clear hK K
  refine norm_ (a' := ?_) ?_ ?_
  rotate_left
  ·show Act.put _ (some 16) _ = _
   simp only [Act.put, List.setIfInBounds_toArray, List.set_cons_zero, List.set_cons_succ, i64_w, i32_w]
   rfl
  refine pu 6 (some 17) #[true, true, true, true, true, true, true, false, false, false, false, false, false, false, false] HT_ ?_
  refine one_ (i := 7) (N := some 18) #[true, true, true, true, true, true, true, true, false, false, false, false, false, false, false] rfl rfl (one_of HT_.out (by kernel_rfl)) (by decide) (fun K hK => ?_)
  refine goes_ Try.func94 (by kernel_rfl) rfl #[.int .i64 a0, .int .i64 a1_0, .int .i64 (wrap64 (-t402))] (by rfl) rfl rfl (by (try simp only [List.map_toArray, List.map_cons, List.map_nil]); first | done | rfl | (simp only [List.length_drop, List.length_take]; rfl)) ?_
  with_reducible refine (impl_ofMark.calls k a0 a1_0 (wrap64 (-t402)) t403 t404 t405 t406 _ A6.out).mono ?_
  rintro e w15 ⟨rfl, hb⟩
  refine ⟨_, rfl, ?_⟩
  have n0_ := bb BK399 hb
  have n1_ := bb BK400 hb
  have n2_ := Aside0.mk (below_step (by repeat (first | (with_reducible first | exact HB.out | apply below_alloc | apply pw_below_drewN | apply below_drew1 | refine below_set ?_ GE399.out | refine below_set ?_ GE400.out) | exact HB.out)) hb)
  clear BK399
  clear BK400
  clear HB
  have BK399 := n0_
  have BK400 := n1_
  have HB := n2_
  clear n0_ n1_ n2_
  (try clear hb)
  (try clear hb2)
  (try clear hk)
  (try clear hi)
  refine hK.out _ _ ⟨(blk_cell BK399.out 0).trans rfl, (blk_cell BK399.out 1).trans rfl, (blk_cell BK399.out 2).trans rfl⟩ (fun hHeld => ?_)
  clear hK K
  refine norm_ (a' := ?_) ?_ ?_
  rotate_left
  ·show Act.put _ (some 18) _ = _
   simp only [Act.put, List.setIfInBounds_toArray, List.set_cons_zero, List.set_cons_succ, i64_w, i32_w]
   rfl
  refine pu 8 (some 19) #[true, true, true, true, true, true, true, true, true, false, false, false, false, false, false] HT_ ?_
  refine pu 9 (some 20) #[true, true, true, true, true, true, true, true, true, true, false, false, false, false, false] HT_ ?_
  refine one_ (i := 10) (N := some 21) #[true, true, true, true, true, true, true, true, true, true, true, false, false, false, false] rfl rfl (one_of HT_.out (by kernel_rfl)) (by decide) (fun K hK => ?_)
  refine goes_ Try.func93 (by kernel_rfl) rfl #[.agg #[.int .i64 t403, .int .i64 t404, .int .i64 t405], .bool t406] (by rfl) rfl rfl (by (try simp only [List.map_toArray, List.map_cons, List.map_nil]); first | done | rfl | (simp only [List.length_drop, List.length_take]; rfl)) ?_
  with_reducible refine (impl_fitted.calls t403 t404 t405 t406 t407 t408 t409 t410 _ A7.out).mono ?_
  rintro e w16 ⟨rfl, hb⟩
  refine ⟨_, rfl, ?_⟩
  have n0_ := bb BK399 hb
  have n1_ := bb BK400 hb
  have n2_ := Aside0.mk (below_step (by repeat (first | (with_reducible first | exact HB.out | apply below_alloc | apply pw_below_drewN | apply below_drew1 | refine below_set ?_ GE399.out | refine below_set ?_ GE400.out) | exact HB.out)) hb)
  clear BK399
  clear BK400
  clear HB
  have BK399 := n0_
  have BK400 := n1_
  have HB := n2_
  clear n0_ n1_ n2_
  (try clear hb)
  (try clear hb2)
  (try clear hk)
  (try clear hi)
  refine hK.out _ _ ⟨(blk_cell BK399.out 0).trans rfl, (blk_cell BK399.out 1).trans rfl, (blk_cell BK399.out 2).trans rfl⟩ (fun hHeld => ?_)
  clear hK K
  refine norm_ (a' := ?_) ?_ ?_
  rotate_left
  ·show Act.put _ (some 21) _ = _
   simp only [Act.put, List.setIfInBounds_toArray, List.set_cons_zero, List.set_cons_succ, i64_w, i32_w]
   rfl
  refine pu 11 (some 22) #[true, true, true, true, true, true, true, true, true, true, true, true, false, false, false] HT_ ?_
  refine pu 12 (some 23) #[true, true, true, true, true, true, true, true, true, true, true, true, true, false, false] HT_ ?_
  refine one_ (i := 13) (N := none) #[true, true, true, true, true, true, true, true, true, true, true, true, true, true, false] rfl rfl (one_of HT_.out (by kernel_rfl)) (by decide) (fun K hK => ?_)
  have hs17 : w16.cell? ⟨gb400, 0, none⟩ = some (.int .i64 0) := (blk_cell BK400.out 0).trans rfl
  have hfs17 := blk_frozen BK400.out 0
  have hns17_0 := NB399_400.out
  have hms17_0 := NB400_399.out
  have hs18 : w16.cell? ⟨gb400, 1, none⟩ = some (.int .i64 0) := (blk_cell BK400.out 1).trans rfl
  have hfs18 := blk_frozen BK400.out 1
  have hns18_0 := NB399_400.out
  have hms18_0 := NB400_399.out
  have hs19 : w16.cell? ⟨gb400, 2, none⟩ = some (.int .i64 0) := (blk_cell BK400.out 2).trans rfl
  have hfs19 := blk_frozen BK400.out 2
  have hns19_0 := NB399_400.out
  have hms19_0 := NB400_399.out
  refine skip_ (w1 := ?_) (by rfl) rfl ?_ ?_
  rotate_left
  ·go_simp
   rfl
  refine hK.out _ _ ⟨((cell_far (p := ⟨gb400, _, none⟩) NB399_400.out _).trans (((cell_far (p := ⟨gb400, _, none⟩) NB399_400.out _).trans (((cell_far (p := ⟨gb400, _, none⟩) NB399_400.out _).trans (hHeld.1)))))), ((cell_far (p := ⟨gb400, _, none⟩) NB399_400.out _).trans (((cell_far (p := ⟨gb400, _, none⟩) NB399_400.out _).trans (((cell_far (p := ⟨gb400, _, none⟩) NB399_400.out _).trans (hHeld.2.1)))))), ((cell_far (p := ⟨gb400, _, none⟩) NB399_400.out _).trans (((cell_far (p := ⟨gb400, _, none⟩) NB399_400.out _).trans (((cell_far (p := ⟨gb400, _, none⟩) NB399_400.out _).trans (hHeld.2.2))))))⟩ (fun hHeld => ?_)
  clear hK K
  refine pu 14 (some 5) #[true, true, true, true, true, true, true, true, true, true, true, true, true, true, true] HT_ ?_
  refine done_ (done_of HT_.out (by kernel_rfl)) ?_
  try go_wp2
  refine bodyPost_ret (results_ct rfl _ _ gb400 27 #[.int .i64 t407, .int .i64 t408, .int .i64 t409] (0, 0) _ rfl (by (with_reducible repeat (first | apply bn | apply bd | apply ba)); refine blk_put (cs := #[.int .i64 t407, .int .i64 t408, .int .i64 0]) ?_ 2 _ rfl; (with_reducible repeat (first | apply bn | apply bd | apply ba)); refine blk_put (cs := #[.int .i64 t407, .int .i64 0, .int .i64 0]) ?_ 1 _ rfl; (with_reducible repeat (first | apply bn | apply bd | apply ba)); refine blk_put (cs := #[.int .i64 0, .int .i64 0, .int .i64 0]) ?_ 0 _ rfl; (with_reducible repeat (first | apply bn | apply bd | apply ba)); exact BK400.out) Try.underlying27 rfl (by kernel_rfl)) rfl ?_
  exact ⟨by first | rfl | (simp [errW_none, errW_some] <;> rfl) | (simp [*, errW_none, errW_some] <;> rfl), by repeat (first | (with_reducible first | exact HB.out | apply below_alloc | apply pw_below_drewN | apply below_drew1 | refine below_set ?_ GE399.out | refine below_set ?_ GE400.out) | exact HB.out)⟩
 ·replace c4 := Bool.eq_false_iff.mpr c4
  subst c4
  have H1 : (some (0, 0, 0, 1)) = some (r1, r2, r3, r4) := by rw [if_neg (show ¬ (false = true) by decide)] at H; exact H
  clear H
  have H := H1
  clear H1
  simp only [Option.some.injEq, Prod.mk.injEq] at H
  obtain ⟨rfl, rfl, rfl, rfl⟩ := H
  go_enter Try.func29, Try.ntmps29
  go_wp2_with (first | ((with_reducible refine gate_dst (N := 3) rfl ?_); refine bx (N := 3) (cs := #[.int .i64 a1_0, .int .i64 a1_1, .int .i64 a1_2]) (t := 27) ?_; intro gb399 hg w20 hbox hb; have BK399 := Aside0.mk (hbox); have GW399 := sg hg; have GE399 := sg hg; replace HB := bs hb; clear hb hbox hg) | ((with_reducible refine gate_dst (N := 4) rfl ?_); refine bx (N := 4) (cs := #[.int .i64 0, .int .i64 0, .int .i64 0]) (t := 27) ?_; intro gb400 hg w21 hbox hb; have BK400 := Aside0.mk (hbox); have GW400 := sg hg; have GE400 := sg hg; have NB399_400 := nl hg BK399; have NB400_399 := ng hg BK399; replace BK399 := bb BK399 hb; replace HB := bs hb; clear hb hbox hg; have hnb22 := NB399_400.out; have hnc22 := NB400_399.out; obtain ⟨hcz23_0, hcz23_1, hcz23_2, hfz23_0, hfz23_1, hfz23_2⟩ := c3 BK399) | ((with_reducible refine gate_callee (f := 65) rfl ?_); refine g1 (some 8) Try.func65 #[.int .i64 a0, .agg #[.int .i64 a1_0, .int .i64 a1_1, .int .i64 a1_2]] ?_; (with_reducible refine (impl_IsBall.calls k a0 a1_0 a1_1 a1_2 false _ A3.out).mono ?_); rintro e w24 ⟨rfl, hb⟩; refine ⟨_, rfl, ?_⟩; replace BK399 := bb BK399 hb; replace BK400 := bb BK400 hb; replace HB := bs hb; (try clear hb); (try clear hb2); (try clear hk); (try clear hi); obtain ⟨hcz25_0, hcz25_1, hcz25_2, hfz25_0, hfz25_1, hfz25_2⟩ := c3 BK400))
  refine bodyPost_ret (results_ct rfl _ _ gb400 27 #[.int .i64 0, .int .i64 0, .int .i64 0] (0, 0) _ rfl (by (with_reducible repeat (first | apply bn | apply bd | apply ba)); refine blk_put (cs := #[.int .i64 0, .int .i64 0, .int .i64 0]) ?_ 2 _ rfl; (with_reducible repeat (first | apply bn | apply bd | apply ba)); refine blk_put (cs := #[.int .i64 0, .int .i64 0, .int .i64 0]) ?_ 1 _ rfl; (with_reducible repeat (first | apply bn | apply bd | apply ba)); refine blk_put (cs := #[.int .i64 0, .int .i64 0, .int .i64 0]) ?_ 0 _ rfl; (with_reducible repeat (first | apply bn | apply bd | apply ba)); exact BK400.out) Try.underlying27 rfl (by kernel_rfl)) rfl ?_
  exact ⟨by first | rfl | (simp [errW_none, errW_some] <;> rfl) | (simp [*, errW_none, errW_some] <;> rfl), by repeat (first | (with_reducible first | exact HB.out | apply below_alloc | apply pw_below_drewN | apply below_drew1 | refine below_set ?_ GE399.out | refine below_set ?_ GE400.out) | exact HB.out)⟩

end Go.Proofs.Ytpmepopagapeiaa.PFnBallSums

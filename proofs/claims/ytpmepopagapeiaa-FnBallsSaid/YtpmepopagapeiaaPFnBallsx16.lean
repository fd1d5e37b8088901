-- Printed by the kit's print and repaired by a program of this session.
import Derived.Test.YtpmepopagapeiaaPFnBallsx0
import Derived.Test.YtpmepopagapeiaaPFnBallsx3
import Derived.Test.YtpmepopagapeiaaPFnBallsx4
namespace Go.Proofs.Ytpmepopagapeiaa.PFnBalls
open Go.RowKit Go.Proofs.YtpmepopagapeiaaW.PrintWords Go.Proofs.YtpmepopagapeiaaW.PrintLast Go.Proofs.YtpmepopagapeiaaW.PrintMore
attribute [local go_sem] max2_int min2_int max_two min_two max_three min_three max_four min_four
set_option linter.unusedVariables false
set_option linter.unusedSimpArgs false

/-! ### impl_apart: function 135 -/
def impl_apart.f (k : Nat) (a0 : Int) (a1_0 : Int) (a1_1 : Int) (a1_2 : Int) (a2_0 : Int) (a2_1 : Int) (a2_2 : Int) : Option (Bool) := (impl_holds.f k a0 a1_0 a1_1 a1_2 a2_0 a2_1 a2_2).bind fun t527 => (if t527 = true then (some false) else ((impl_holds.f k a0 a2_0 a2_1 a2_2 a1_0 a1_1 a1_2).bind fun t528 => (some (!t528))))
set_option maxHeartbeats 8000000 in
set_option maxRecDepth 100000 in
theorem impl_apart.calls (k : Nat) (a0 : Int) (a1_0 : Int) (a1_1 : Int) (a1_2 : Int) (a2_0 : Int) (a2_1 : Int) (a2_2 : Int) (r : Bool) (w : World) (h : impl_apart.f k a0 a1_0 a1_1 a1_2 a2_0 a2_1 a2_2 = some r) :
  Calls Try.prog 135 #[.int .i64 a0, .agg #[.int .i64 a1_0, .int .i64 a1_1, .int .i64 a1_2], .agg #[.int .i64 a2_0, .int .i64 a2_1, .int .i64 a2_2]] w fun e w' => e = .returned (.bool r) ∧ Below w.heap.size w w' := by
 have hu27 := Try.underlying27
 have HB := Aside0.mk (Below.refl w.heap.size w)
 unfold impl_apart.f at h
 have H := h
 clear h
 replace H := zi H
 obtain ⟨t527, A4, H⟩ := H
 try dsimp only at H
 by_cases c5 : t527 = true
 ·subst c5
  rw [if_pos rfl] at H
  obtain rfl := Option.some.inj H
  go_enter Try.func135, Try.ntmps135
  go_wp2_with (first | ((with_reducible refine zg 4 rfl ?_); refine z3 4 27 a1_0 a1_1 a1_2 ?_; intro gb525 hg w6 BK525 hb; have GW525 := sg hg; replace HB := bs hb; clear hb hg) | ((with_reducible refine zg 5 rfl ?_); refine z3 5 27 a2_0 a2_1 a2_2 ?_; intro gb526 hg w7 BK526 hb; have GW526 := sg hg; have NB525_526 := nl hg BK525; replace BK525 := bb BK525 hb; replace HB := bs hb; clear hb hg; obtain ⟨hnb8, hnc8⟩ := zn NB525_526; obtain ⟨hcz9_0, hcz9_1, hcz9_2, hfz9_0, hfz9_1, hfz9_2⟩ := cq3 BK525; obtain ⟨hcz10_0, hcz10_1, hcz10_2, hfz10_0, hfz10_1, hfz10_2⟩ := cq3 BK526) | ((with_reducible refine zf 109 rfl ?_); refine g1 (some 10) Try.func109 #[.int .i64 a0, .agg #[.int .i64 a1_0, .int .i64 a1_1, .int .i64 a1_2], .agg #[.int .i64 a2_0, .int .i64 a2_1, .int .i64 a2_2]] ?_; (with_reducible refine (impl_holds.calls k a0 a1_0 a1_1 a1_2 a2_0 a2_1 a2_2 true _ A4.out).mono ?_); rintro e w11 ⟨rfl, hb⟩; refine ⟨_, rfl, ?_⟩; replace BK525 := bb BK525 hb; replace BK526 := bb BK526 hb; replace HB := bs hb; (try clear hb)))
  go_ret
  exact ⟨er, bl⟩
 ·replace c5 := Bool.eq_false_iff.mpr c5
  subst c5
  have H1 : ((impl_holds.f k a0 a2_0 a2_1 a2_2 a1_0 a1_1 a1_2).bind fun t528 => (some (!t528))) = some r := by rw [if_neg (show ¬ (false = true) by decide)] at H; exact H
  clear H
  have H := H1
  clear H1
  replace H := zi H
  obtain ⟨t528, A12, H⟩ := H
  try dsimp only at H
  obtain rfl := Option.some.inj H
  go_enter Try.func135, Try.ntmps135
  go_wp2_with (first | ((with_reducible refine zg 4 rfl ?_); refine z3 4 27 a1_0 a1_1 a1_2 ?_; intro gb525 hg w13 BK525 hb; have GW525 := sg hg; replace HB := bs hb; clear hb hg) | ((with_reducible refine zg 5 rfl ?_); refine z3 5 27 a2_0 a2_1 a2_2 ?_; intro gb526 hg w14 BK526 hb; have GW526 := sg hg; have NB525_526 := nl hg BK525; replace BK525 := bb BK525 hb; replace HB := bs hb; clear hb hg; obtain ⟨hnb15, hnc15⟩ := zn NB525_526; obtain ⟨hcz16_0, hcz16_1, hcz16_2, hfz16_0, hfz16_1, hfz16_2⟩ := cq3 BK525; obtain ⟨hcz17_0, hcz17_1, hcz17_2, hfz17_0, hfz17_1, hfz17_2⟩ := cq3 BK526) | ((with_reducible refine zf 109 rfl ?_); refine g1 (some 10) Try.func109 #[.int .i64 a0, .agg #[.int .i64 a1_0, .int .i64 a1_1, .int .i64 a1_2], .agg #[.int .i64 a2_0, .int .i64 a2_1, .int .i64 a2_2]] ?_; (with_reducible refine (impl_holds.calls k a0 a1_0 a1_1 a1_2 a2_0 a2_1 a2_2 false _ A4.out).mono ?_); rintro e w18 ⟨rfl, hb⟩; refine ⟨_, rfl, ?_⟩; replace BK525 := bb BK525 hb; replace BK526 := bb BK526 hb; replace HB := bs hb; (try clear hb); obtain ⟨hcz19_0, hcz19_1, hcz19_2, hfz19_0, hfz19_1, hfz19_2⟩ := cq3 BK526; obtain ⟨hcz20_0, hcz20_1, hcz20_2, hfz20_0, hfz20_1, hfz20_2⟩ := cq3 BK525) | (go_at_call 109; (with_reducible refine (impl_holds.calls k a0 a2_0 a2_1 a2_2 a1_0 a1_1 a1_2 t528 _ A12.out).mono ?_); rintro e w21 ⟨rfl, hb⟩; replace BK525 := bb BK525 hb; replace BK526 := bb BK526 hb; replace HB := bs hb; (try clear hb)))
  go_ret
  exact ⟨er, bl⟩

/-! ### impl_AreApart: function 72 -/
def impl_AreApart.f (k : Nat) (a0 : Int) (a1_0 : Int) (a1_1 : Int) (a1_2 : Int) (a2_0 : Int) (a2_1 : Int) (a2_2 : Int) : Option (Bool × Int) := (impl_areBalls.f k a0 (([(⟨a1_0, a1_1, a1_2⟩ : S27), (⟨a2_0, a2_1, a2_2⟩ : S27)] : List (S27)))).bind fun t534 => (if t534 = true then ((impl_apart.f k a0 a1_0 a1_1 a1_2 a2_0 a2_1 a2_2).bind fun t535 => (some (t535, 0))) else (some (false, 1)))
set_option maxHeartbeats 8000000 in
set_option maxRecDepth 100000 in
theorem impl_AreApart.calls (k : Nat) (a0 : Int) (a1_0 : Int) (a1_1 : Int) (a1_2 : Int) (a2_0 : Int) (a2_1 : Int) (a2_2 : Int) (r1 : Bool) (r2 : Int) (w : World) (h : impl_AreApart.f k a0 a1_0 a1_1 a1_2 a2_0 a2_1 a2_2 = some (r1, r2)) :
  Calls Try.prog 72 #[.int .i64 a0, .agg #[.int .i64 a1_0, .int .i64 a1_1, .int .i64 a1_2], .agg #[.int .i64 a2_0, .int .i64 a2_1, .int .i64 a2_2]] w fun e w' => e = .returned (.tuple #[.bool r1, .int .i64 r2]) ∧ Below w.heap.size w w' := by
 have hu27 := Try.underlying27
 have HB := Aside0.mk (Below.refl w.heap.size w)
 unfold impl_AreApart.f at h
 have H := h
 clear h
 obtain ⟨y531, hy531⟩ : ∃ y_ : List (S27), y_ = (([(⟨a1_0, a1_1, a1_2⟩ : S27), (⟨a2_0, a2_1, a2_2⟩ : S27)] : List (S27))) := ⟨_, rfl⟩
 replace H : ((impl_areBalls.f k a0 y531).bind fun t534 => (if t534 = true then ((impl_apart.f k a0 a1_0 a1_1 a1_2 a2_0 a2_1 a2_2).bind fun t535 => (some (t535, 0))) else (some (false, 1)))) = some (r1, r2) := by first | exact hy531 ▸ H | exact H
 have Ny531 := Aside0.mk hy531
 clear hy531
 replace H := zi H
 obtain ⟨t534, A4, H⟩ := H
 try dsimp only at H
 by_cases c5 : t534 = true
 ·subst c5
  rw [if_pos rfl] at H
  replace H := zi H
  obtain ⟨t535, A6, H⟩ := H
  try dsimp only at H
  simp only [Option.some.injEq, Prod.mk.injEq] at H
  obtain ⟨rfl, rfl⟩ := H
  go_enter Try.func72, Try.ntmps72
  go_wp2_with (first | ((with_reducible refine zg 4 rfl ?_); refine z3 4 27 a1_0 a1_1 a1_2 ?_; intro gb529 hg w7 BK529 hb; have GW529 := sg hg; replace HB := bs hb; clear hb hg) | ((with_reducible refine zg 5 rfl ?_); refine z3 5 27 a2_0 a2_1 a2_2 ?_; intro gb530 hg w8 BK530 hb; have GW530 := sg hg; have NB529_530 := nl hg BK529; replace BK529 := bb BK529 hb; replace HB := bs hb; clear hb hg; obtain ⟨hnb9, hnc9⟩ := zn NB529_530; obtain ⟨hcz10_0, hcz10_1, hcz10_2, hfz10_0, hfz10_1, hfz10_2⟩ := cq3 BK529; obtain ⟨hcz11_0, hcz11_1, hcz11_2, hfz11_0, hfz11_1, hfz11_2⟩ := cq3 BK530) | ((with_reducible refine zg 11 rfl ?_); refine Kd.R_lit k27 _ 27 ?hg (N := 11) ?hd (xs := ([(⟨a1_0, a1_1, a1_2⟩ : S27), (⟨a2_0, a2_1, a2_2⟩ : S27)] : List (S27))) (inner := [.int .i64 a1_0, .int .i64 a1_1, .int .i64 a1_2, .int .i64 a2_0, .int .i64 a2_1, .int .i64 a2_2]) (ok := fun _ => True) (okp := fun _ => True) ?hr ?hp (fun _ hk => hk) trivial (Below.refl _ _) (Nat.le_refl _) (by simp) ?_; (case hd => rfl); (case hg => rfl); (case hr => first | (go_simp; done) | (go_simp; rfl)); (case hp => exact (Reps.c3 (show Kd.M k27 _ _ _ (⟨a1_0, a1_1, a1_2⟩ : S27) [.int .i64 a1_0, .int .i64 a1_1, .int .i64 a1_2] from (k27_mkM _ _ _ (⟨a1_0, a1_1, a1_2⟩ : S27) )) (Reps.c3 (show Kd.M k27 _ _ _ (⟨a2_0, a2_1, a2_2⟩ : S27) [.int .i64 a2_0, .int .i64 a2_1, .int .i64 a2_2] from (k27_mkM _ _ _ (⟨a2_0, a2_1, a2_2⟩ : S27) )) (Reps.none _ _)))); intro v532 w12 ho13 hb hg_ hnew_; clear hg_ hnew_; (first | rw [← Ny531.out] at ho13 | (simp only [Int.reduceToNat] at ho13; rw [← Ny531.out] at ho13)); have HO533 := Aside0.mk (Kd.R_lower (Kd.R_newB (Kd.R_newB ho13 (g := gb529) (o := .cells #[.int .i64 a1_0, .int .i64 a1_1, .int .i64 a1_2] 27 (0, 0)) (be BK529)) (g := gb530) (o := .cells #[.int .i64 a2_0, .int .i64 a2_1, .int .i64 a2_2] 27 (0, 0)) (be BK530)) (below_size (bl))); replace BK529 := bb BK529 hb; replace BK530 := bb BK530 hb; replace HB := bs hb; clear hb ho13; obtain ⟨Ao14, co14, eo14⟩ := Kd.R_slice HO533.out; subst eo14) | ((with_reducible refine zf 83 rfl ?_); refine g1 (some 12) Try.func83 #[.int .i64 a0, .slice Ao14 y531.length co14] ?_; (with_reducible refine (impl_areBalls.calls k a0 _ _ y531 true _ ?side1 ?side2 A4.out).mono ?_); (case side1 => repeat (first | exact (Kd.R_reads' HO533.out).2.2 | (with_reducible refine Kd.C_alloc ?_ _) | (with_reducible refine Kd.C_drewN ?_ _) | (with_reducible refine Kd.C_drew ?_))); (case side2 => exact (Kd.R_reads' HO533.out).2.1); rintro e w15 ⟨rfl, hb⟩; refine ⟨_, rfl, ?_⟩; replace HO533 := Aside0.mk (Kd.R_below (by (with_reducible repeat (first | apply Kd.R_alloc | apply Kd.R_drewN | apply Kd.R_drew)); exact HO533.out) hb); replace BK529 := bb BK529 hb; replace BK530 := bb BK530 hb; replace HB := bs hb; (try clear hb); obtain ⟨hcz16_0, hcz16_1, hcz16_2, hfz16_0, hfz16_1, hfz16_2⟩ := cq3 BK529; obtain ⟨hcz17_0, hcz17_1, hcz17_2, hfz17_0, hfz17_1, hfz17_2⟩ := cq3 BK530) | ((with_reducible refine zf 135 rfl ?_); refine g1 (some 17) Try.func135 #[.int .i64 a0, .agg #[.int .i64 a1_0, .int .i64 a1_1, .int .i64 a1_2], .agg #[.int .i64 a2_0, .int .i64 a2_1, .int .i64 a2_2]] ?_; (with_reducible refine (impl_apart.calls k a0 a1_0 a1_1 a1_2 a2_0 a2_1 a2_2 t535 _ A6.out).mono ?_); rintro e w18 ⟨rfl, hb⟩; refine ⟨_, rfl, ?_⟩; replace HO533 := Aside0.mk (Kd.R_below (by (with_reducible repeat (first | apply Kd.R_alloc | apply Kd.R_drewN | apply Kd.R_drew)); exact HO533.out) hb); replace BK529 := bb BK529 hb; replace BK530 := bb BK530 hb; replace HB := bs hb; (try clear hb)))
  go_ret2
  exact ⟨er, bl⟩
 ·replace c5 := Bool.eq_false_iff.mpr c5
  subst c5
  have H1 : (some (false, 1)) = some (r1, r2) := by rw [if_neg (show ¬ (false = true) by decide)] at H; exact H
  clear H
  have H := H1
  clear H1
  simp only [Option.some.injEq, Prod.mk.injEq] at H
  obtain ⟨rfl, rfl⟩ := H
  go_enter Try.func72, Try.ntmps72
  go_wp2_with (first | ((with_reducible refine zg 4 rfl ?_); refine z3 4 27 a1_0 a1_1 a1_2 ?_; intro gb529 hg w19 BK529 hb; have GW529 := sg hg; replace HB := bs hb; clear hb hg) | ((with_reducible refine zg 5 rfl ?_); refine z3 5 27 a2_0 a2_1 a2_2 ?_; intro gb530 hg w20 BK530 hb; have GW530 := sg hg; have NB529_530 := nl hg BK529; replace BK529 := bb BK529 hb; replace HB := bs hb; clear hb hg; obtain ⟨hnb21, hnc21⟩ := zn NB529_530; obtain ⟨hcz22_0, hcz22_1, hcz22_2, hfz22_0, hfz22_1, hfz22_2⟩ := cq3 BK529; obtain ⟨hcz23_0, hcz23_1, hcz23_2, hfz23_0, hfz23_1, hfz23_2⟩ := cq3 BK530) | ((with_reducible refine zg 11 rfl ?_); refine Kd.R_lit k27 _ 27 ?hg (N := 11) ?hd (xs := ([(⟨a1_0, a1_1, a1_2⟩ : S27), (⟨a2_0, a2_1, a2_2⟩ : S27)] : List (S27))) (inner := [.int .i64 a1_0, .int .i64 a1_1, .int .i64 a1_2, .int .i64 a2_0, .int .i64 a2_1, .int .i64 a2_2]) (ok := fun _ => True) (okp := fun _ => True) ?hr ?hp (fun _ hk => hk) trivial (Below.refl _ _) (Nat.le_refl _) (by simp) ?_; (case hd => rfl); (case hg => rfl); (case hr => first | (go_simp; done) | (go_simp; rfl)); (case hp => exact (Reps.c3 (show Kd.M k27 _ _ _ (⟨a1_0, a1_1, a1_2⟩ : S27) [.int .i64 a1_0, .int .i64 a1_1, .int .i64 a1_2] from (k27_mkM _ _ _ (⟨a1_0, a1_1, a1_2⟩ : S27) )) (Reps.c3 (show Kd.M k27 _ _ _ (⟨a2_0, a2_1, a2_2⟩ : S27) [.int .i64 a2_0, .int .i64 a2_1, .int .i64 a2_2] from (k27_mkM _ _ _ (⟨a2_0, a2_1, a2_2⟩ : S27) )) (Reps.none _ _)))); intro v532 w24 ho25 hb hg_ hnew_; clear hg_ hnew_; (first | rw [← Ny531.out] at ho25 | (simp only [Int.reduceToNat] at ho25; rw [← Ny531.out] at ho25)); have HO533 := Aside0.mk (Kd.R_lower (Kd.R_newB (Kd.R_newB ho25 (g := gb529) (o := .cells #[.int .i64 a1_0, .int .i64 a1_1, .int .i64 a1_2] 27 (0, 0)) (be BK529)) (g := gb530) (o := .cells #[.int .i64 a2_0, .int .i64 a2_1, .int .i64 a2_2] 27 (0, 0)) (be BK530)) (below_size (bl))); replace BK529 := bb BK529 hb; replace BK530 := bb BK530 hb; replace HB := bs hb; clear hb ho25; obtain ⟨Ao26, co26, eo26⟩ := Kd.R_slice HO533.out; subst eo26) | ((with_reducible refine zf 83 rfl ?_); refine g1 (some 12) Try.func83 #[.int .i64 a0, .slice Ao26 y531.length co26] ?_; (with_reducible refine (impl_areBalls.calls k a0 _ _ y531 false _ ?side1 ?side2 A4.out).mono ?_); (case side1 => repeat (first | exact (Kd.R_reads' HO533.out).2.2 | (with_reducible refine Kd.C_alloc ?_ _) | (with_reducible refine Kd.C_drewN ?_ _) | (with_reducible refine Kd.C_drew ?_))); (case side2 => exact (Kd.R_reads' HO533.out).2.1); rintro e w27 ⟨rfl, hb⟩; refine ⟨_, rfl, ?_⟩; replace HO533 := Aside0.mk (Kd.R_below (by (with_reducible repeat (first | apply Kd.R_alloc | apply Kd.R_drewN | apply Kd.R_drew)); exact HO533.out) hb); replace BK529 := bb BK529 hb; replace BK530 := bb BK530 hb; replace HB := bs hb; (try clear hb)))
  go_ret2
  exact ⟨er, bl⟩

end Go.Proofs.Ytpmepopagapeiaa.PFnBalls

-- Printed by the kit's print and repaired by a program of this session.
import Derived.Test.YtpmepopagapeiaaPFnBallsx0
import Derived.Test.YtpmepopagapeiaaPFnBallsx3
import Derived.Test.YtpmepopagapeiaaPFnBallsx4
import Derived.Test.YtpmepopagapeiaaPFnBallsx5
import Derived.Test.YtpmepopagapeiaaPFnBallsx7
import Derived.Test.YtpmepopagapeiaaPFnBallsx8
import Derived.Test.YtpmepopagapeiaaPFnBallsx11
import Derived.Test.YtpmepopagapeiaaPFnBallsx17
namespace Go.Proofs.Ytpmepopagapeiaa.PFnBalls
open Go.RowKit Go.Proofs.YtpmepopagapeiaaW.PrintWords Go.Proofs.YtpmepopagapeiaaW.PrintLast Go.Proofs.YtpmepopagapeiaaW.PrintMore
attribute [local go_sem] max2_int min2_int max_two min_two max_three min_three max_four min_four
set_option linter.unusedVariables false
set_option linter.unusedSimpArgs false

/-! ### spec_AreApart: function 73 -/
def spec_AreApart.f (k : Nat) (a0 : Int) (a1_0 : Int) (a1_1 : Int) (a1_2 : Int) (a2_0 : Int) (a2_1 : Int) (a2_2 : Int) : Option (Bool × Int) := (spec_l01Code.f k a0 (([(⟨a1_0, a1_1, a1_2⟩ : S27), (⟨a2_0, a2_1, a2_2⟩ : S27)] : List (S27)))).bind fun t549 => (if t549 = 0 then ((spec_l01Holds.f k a0 a1_0 a1_1 a1_2 a2_0 a2_1 a2_2).bind fun t550 => (if t550 = true then (some (false, 0)) else ((spec_l01Holds.f k a0 a2_0 a2_1 a2_2 a1_0 a1_1 a1_2).bind fun t551 => (some (!t551, 0))))) else (some (false, t549)))
set_option maxHeartbeats 8000000 in
set_option maxRecDepth 100000 in
theorem spec_AreApart.calls (k : Nat) (a0 : Int) (a1_0 : Int) (a1_1 : Int) (a1_2 : Int) (a2_0 : Int) (a2_1 : Int) (a2_2 : Int) (r1 : Bool) (r2 : Int) (w : World) (h : spec_AreApart.f k a0 a1_0 a1_1 a1_2 a2_0 a2_1 a2_2 = some (r1, r2)) :
  Calls Try.prog 73 #[.int .i64 a0, .agg #[.int .i64 a1_0, .int .i64 a1_1, .int .i64 a1_2], .agg #[.int .i64 a2_0, .int .i64 a2_1, .int .i64 a2_2]] w fun e w' => e = .returned (.tuple #[.bool r1, .int .i64 r2]) ∧ Below w.heap.size w w' := by
 have hu27 := Try.underlying27
 have HB := Aside0.mk (Below.refl w.heap.size w)
 unfold spec_AreApart.f at h
 have H := h
 clear h
 obtain ⟨y546, hy546⟩ : ∃ y_ : List (S27), y_ = (([(⟨a1_0, a1_1, a1_2⟩ : S27), (⟨a2_0, a2_1, a2_2⟩ : S27)] : List (S27))) := ⟨_, rfl⟩
 replace H : ((spec_l01Code.f k a0 y546).bind fun t549 => (if t549 = 0 then ((spec_l01Holds.f k a0 a1_0 a1_1 a1_2 a2_0 a2_1 a2_2).bind fun t550 => (if t550 = true then (some (false, 0)) else ((spec_l01Holds.f k a0 a2_0 a2_1 a2_2 a1_0 a1_1 a1_2).bind fun t551 => (some (!t551, 0))))) else (some (false, t549)))) = some (r1, r2) := by first | exact hy546 ▸ H | exact H
 have Ny546 := Aside0.mk hy546
 clear hy546
 replace H := zi H
 obtain ⟨t549, A4, H⟩ := H
 try dsimp only at H
 replace H := ii H
 rcases H with ⟨c5, H⟩ | ⟨c5, H⟩
 ·obtain ⟨c5b0, c5b1⟩ := zz c5
  clear c5
  replace H := zi H
  obtain ⟨t550, A6, H⟩ := H
  try dsimp only at H
  by_cases c7 : t550 = true
  ·subst c7
   rw [if_pos rfl] at H
   simp only [Option.some.injEq, Prod.mk.injEq] at H
   obtain ⟨rfl, rfl⟩ := H
   go_enter Try.func73, Try.ntmps73
   go_wp2_with (first | ((with_reducible refine zg 4 rfl ?_); refine z3 4 27 a1_0 a1_1 a1_2 ?_; intro gb544 hg w8 BK544 hb; have GW544 := sg hg; replace HB := bs hb; clear hb hg) | ((with_reducible refine zg 5 rfl ?_); refine z3 5 27 a2_0 a2_1 a2_2 ?_; intro gb545 hg w9 BK545 hb; have GW545 := sg hg; have NB544_545 := nl hg BK544; replace BK544 := bb BK544 hb; replace HB := bs hb; clear hb hg; obtain ⟨hnb10, hnc10⟩ := zn NB544_545; obtain ⟨hcz11_0, hcz11_1, hcz11_2, hfz11_0, hfz11_1, hfz11_2⟩ := cq3 BK544; obtain ⟨hcz12_0, hcz12_1, hcz12_2, hfz12_0, hfz12_1, hfz12_2⟩ := cq3 BK545) | ((with_reducible refine zg 12 rfl ?_); refine Kd.R_lit k27 _ 27 ?hg (N := 12) ?hd (xs := ([(⟨a1_0, a1_1, a1_2⟩ : S27), (⟨a2_0, a2_1, a2_2⟩ : S27)] : List (S27))) (inner := [.int .i64 a1_0, .int .i64 a1_1, .int .i64 a1_2, .int .i64 a2_0, .int .i64 a2_1, .int .i64 a2_2]) (ok := fun _ => True) (okp := fun _ => True) ?hr ?hp (fun _ hk => hk) trivial (Below.refl _ _) (Nat.le_refl _) (by simp) ?_; (case hd => rfl); (case hg => rfl); (case hr => first | (go_simp; done) | (go_simp; rfl)); (case hp => exact (Reps.c3 (show Kd.M k27 _ _ _ (⟨a1_0, a1_1, a1_2⟩ : S27) [.int .i64 a1_0, .int .i64 a1_1, .int .i64 a1_2] from (k27_mkM _ _ _ (⟨a1_0, a1_1, a1_2⟩ : S27) )) (Reps.c3 (show Kd.M k27 _ _ _ (⟨a2_0, a2_1, a2_2⟩ : S27) [.int .i64 a2_0, .int .i64 a2_1, .int .i64 a2_2] from (k27_mkM _ _ _ (⟨a2_0, a2_1, a2_2⟩ : S27) )) (Reps.none _ _)))); intro v547 w13 ho14 hb hg_ hnew_; clear hg_ hnew_; (first | rw [← Ny546.out] at ho14 | (simp only [Int.reduceToNat] at ho14; rw [← Ny546.out] at ho14)); have HO548 := Aside0.mk (Kd.R_lower (Kd.R_newB (Kd.R_newB ho14 (g := gb544) (o := .cells #[.int .i64 a1_0, .int .i64 a1_1, .int .i64 a1_2] 27 (0, 0)) (be BK544)) (g := gb545) (o := .cells #[.int .i64 a2_0, .int .i64 a2_1, .int .i64 a2_2] 27 (0, 0)) (be BK545)) (below_size (bl))); replace BK544 := bb BK544 hb; replace BK545 := bb BK545 hb; replace HB := bs hb; clear hb ho14; obtain ⟨Ao15, co15, eo15⟩ := Kd.R_slice HO548.out; subst eo15) | ((with_reducible refine zf 81 rfl ?_); refine g1 (some 13) Try.func81 #[.int .i64 a0, .slice Ao15 y546.length co15] ?_; (with_reducible refine (spec_l01Code.calls k a0 _ _ y546 t549 _ ?side1 ?side2 A4.out).mono ?_); (case side1 => repeat (first | exact (Kd.R_reads' HO548.out).2.2 | (with_reducible refine Kd.C_alloc ?_ _) | (with_reducible refine Kd.C_drewN ?_ _) | (with_reducible refine Kd.C_drew ?_))); (case side2 => exact (Kd.R_reads' HO548.out).2.1); rintro e w16 ⟨rfl, hb⟩; refine ⟨_, rfl, ?_⟩; replace HO548 := Aside0.mk (Kd.R_below (by (with_reducible repeat (first | apply Kd.R_alloc | apply Kd.R_drewN | apply Kd.R_drew)); exact HO548.out) hb); replace BK544 := bb BK544 hb; replace BK545 := bb BK545 hb; replace HB := bs hb; (try clear hb); obtain ⟨hcz17_0, hcz17_1, hcz17_2, hfz17_0, hfz17_1, hfz17_2⟩ := cq3 BK544; obtain ⟨hcz18_0, hcz18_1, hcz18_2, hfz18_0, hfz18_1, hfz18_2⟩ := cq3 BK545) | ((with_reducible refine zf 136 rfl ?_); refine g1 (some 20) Try.func136 #[.int .i64 a0, .agg #[.int .i64 a1_0, .int .i64 a1_1, .int .i64 a1_2], .agg #[.int .i64 a2_0, .int .i64 a2_1, .int .i64 a2_2]] ?_; (with_reducible refine (spec_l01Holds.calls k a0 a1_0 a1_1 a1_2 a2_0 a2_1 a2_2 true _ A6.out).mono ?_); rintro e w19 ⟨rfl, hb⟩; refine ⟨_, rfl, ?_⟩; replace HO548 := Aside0.mk (Kd.R_below (by (with_reducible repeat (first | apply Kd.R_alloc | apply Kd.R_drewN | apply Kd.R_drew)); exact HO548.out) hb); replace BK544 := bb BK544 hb; replace BK545 := bb BK545 hb; replace HB := bs hb; (try clear hb)))
   go_ret2
   exact ⟨er, bl⟩
  ·replace c7 := Bool.eq_false_iff.mpr c7
   subst c7
   have H1 : ((spec_l01Holds.f k a0 a2_0 a2_1 a2_2 a1_0 a1_1 a1_2).bind fun t551 => (some (!t551, 0))) = some (r1, r2) := by rw [if_neg (show ¬ (false = true) by decide)] at H; exact H
   clear H
   have H := H1
   clear H1
   replace H := zi H
   obtain ⟨t551, A20, H⟩ := H
   try dsimp only at H
   simp only [Option.some.injEq, Prod.mk.injEq] at H
   obtain ⟨rfl, rfl⟩ := H
   go_enter Try.func73, Try.ntmps73
   go_wp2_with (first | ((with_reducible refine zg 4 rfl ?_); refine z3 4 27 a1_0 a1_1 a1_2 ?_; intro gb544 hg w21 BK544 hb; have GW544 := sg hg; replace HB := bs hb; clear hb hg) | ((with_reducible refine zg 5 rfl ?_); refine z3 5 27 a2_0 a2_1 a2_2 ?_; intro gb545 hg w22 BK545 hb; have GW545 := sg hg; have NB544_545 := nl hg BK544; replace BK544 := bb BK544 hb; replace HB := bs hb; clear hb hg; obtain ⟨hnb23, hnc23⟩ := zn NB544_545; obtain ⟨hcz24_0, hcz24_1, hcz24_2, hfz24_0, hfz24_1, hfz24_2⟩ := cq3 BK544; obtain ⟨hcz25_0, hcz25_1, hcz25_2, hfz25_0, hfz25_1, hfz25_2⟩ := cq3 BK545) | ((with_reducible refine zg 12 rfl ?_); refine Kd.R_lit k27 _ 27 ?hg (N := 12) ?hd (xs := ([(⟨a1_0, a1_1, a1_2⟩ : S27), (⟨a2_0, a2_1, a2_2⟩ : S27)] : List (S27))) (inner := [.int .i64 a1_0, .int .i64 a1_1, .int .i64 a1_2, .int .i64 a2_0, .int .i64 a2_1, .int .i64 a2_2]) (ok := fun _ => True) (okp := fun _ => True) ?hr ?hp (fun _ hk => hk) trivial (Below.refl _ _) (Nat.le_refl _) (by simp) ?_; (case hd => rfl); (case hg => rfl); (case hr => first | (go_simp; done) | (go_simp; rfl)); (case hp => exact (Reps.c3 (show Kd.M k27 _ _ _ (⟨a1_0, a1_1, a1_2⟩ : S27) [.int .i64 a1_0, .int .i64 a1_1, .int .i64 a1_2] from (k27_mkM _ _ _ (⟨a1_0, a1_1, a1_2⟩ : S27) )) (Reps.c3 (show Kd.M k27 _ _ _ (⟨a2_0, a2_1, a2_2⟩ : S27) [.int .i64 a2_0, .int .i64 a2_1, .int .i64 a2_2] from (k27_mkM _ _ _ (⟨a2_0, a2_1, a2_2⟩ : S27) )) (Reps.none _ _)))); intro v547 w26 ho27 hb hg_ hnew_; clear hg_ hnew_; (first | rw [← Ny546.out] at ho27 | (simp only [Int.reduceToNat] at ho27; rw [← Ny546.out] at ho27)); have HO548 := Aside0.mk (Kd.R_lower (Kd.R_newB (Kd.R_newB ho27 (g := gb544) (o := .cells #[.int .i64 a1_0, .int .i64 a1_1, .int .i64 a1_2] 27 (0, 0)) (be BK544)) (g := gb545) (o := .cells #[.int .i64 a2_0, .int .i64 a2_1, .int .i64 a2_2] 27 (0, 0)) (be BK545)) (below_size (bl))); replace BK544 := bb BK544 hb; replace BK545 := bb BK545 hb; replace HB := bs hb; clear hb ho27; obtain ⟨Ao28, co28, eo28⟩ := Kd.R_slice HO548.out; subst eo28) | ((with_reducible refine zf 81 rfl ?_); refine g1 (some 13) Try.func81 #[.int .i64 a0, .slice Ao28 y546.length co28] ?_; (with_reducible refine (spec_l01Code.calls k a0 _ _ y546 t549 _ ?side1 ?side2 A4.out).mono ?_); (case side1 => repeat (first | exact (Kd.R_reads' HO548.out).2.2 | (with_reducible refine Kd.C_alloc ?_ _) | (with_reducible refine Kd.C_drewN ?_ _) | (with_reducible refine Kd.C_drew ?_))); (case side2 => exact (Kd.R_reads' HO548.out).2.1); rintro e w29 ⟨rfl, hb⟩; refine ⟨_, rfl, ?_⟩; replace HO548 := Aside0.mk (Kd.R_below (by (with_reducible repeat (first | apply Kd.R_alloc | apply Kd.R_drewN | apply Kd.R_drew)); exact HO548.out) hb); replace BK544 := bb BK544 hb; replace BK545 := bb BK545 hb; replace HB := bs hb; (try clear hb); obtain ⟨hcz30_0, hcz30_1, hcz30_2, hfz30_0, hfz30_1, hfz30_2⟩ := cq3 BK544; obtain ⟨hcz31_0, hcz31_1, hcz31_2, hfz31_0, hfz31_1, hfz31_2⟩ := cq3 BK545) | ((with_reducible refine zf 136 rfl ?_); refine g1 (some 20) Try.func136 #[.int .i64 a0, .agg #[.int .i64 a1_0, .int .i64 a1_1, .int .i64 a1_2], .agg #[.int .i64 a2_0, .int .i64 a2_1, .int .i64 a2_2]] ?_; (with_reducible refine (spec_l01Holds.calls k a0 a1_0 a1_1 a1_2 a2_0 a2_1 a2_2 false _ A6.out).mono ?_); rintro e w32 ⟨rfl, hb⟩; refine ⟨_, rfl, ?_⟩; replace HO548 := Aside0.mk (Kd.R_below (by (with_reducible repeat (first | apply Kd.R_alloc | apply Kd.R_drewN | apply Kd.R_drew)); exact HO548.out) hb); replace BK544 := bb BK544 hb; replace BK545 := bb BK545 hb; replace HB := bs hb; (try clear hb); obtain ⟨hcz33_0, hcz33_1, hcz33_2, hfz33_0, hfz33_1, hfz33_2⟩ := cq3 BK545; obtain ⟨hcz34_0, hcz34_1, hcz34_2, hfz34_0, hfz34_1, hfz34_2⟩ := cq3 BK544) | (go_at_call 136; (with_reducible refine (spec_l01Holds.calls k a0 a2_0 a2_1 a2_2 a1_0 a1_1 a1_2 t551 _ A20.out).mono ?_); rintro e w35 ⟨rfl, hb⟩; replace HO548 := Aside0.mk (Kd.R_below (by (with_reducible repeat (first | apply Kd.R_alloc | apply Kd.R_drewN | apply Kd.R_drew)); exact HO548.out) hb); replace BK544 := bb BK544 hb; replace BK545 := bb BK545 hb; replace HB := bs hb; (try clear hb)))
   go_ret2
   exact ⟨er, bl⟩
 ·obtain ⟨c5b0, c5b1⟩ := zy c5
  simp only [Option.some.injEq, Prod.mk.injEq] at H
  obtain ⟨rfl, rfl⟩ := H
  go_enter Try.func73, Try.ntmps73
  go_wp2_with (first | ((with_reducible refine zg 4 rfl ?_); refine z3 4 27 a1_0 a1_1 a1_2 ?_; intro gb544 hg w36 BK544 hb; have GW544 := sg hg; replace HB := bs hb; clear hb hg) | ((with_reducible refine zg 5 rfl ?_); refine z3 5 27 a2_0 a2_1 a2_2 ?_; intro gb545 hg w37 BK545 hb; have GW545 := sg hg; have NB544_545 := nl hg BK544; replace BK544 := bb BK544 hb; replace HB := bs hb; clear hb hg; obtain ⟨hnb38, hnc38⟩ := zn NB544_545; obtain ⟨hcz39_0, hcz39_1, hcz39_2, hfz39_0, hfz39_1, hfz39_2⟩ := cq3 BK544; obtain ⟨hcz40_0, hcz40_1, hcz40_2, hfz40_0, hfz40_1, hfz40_2⟩ := cq3 BK545) | ((with_reducible refine zg 12 rfl ?_); refine Kd.R_lit k27 _ 27 ?hg (N := 12) ?hd (xs := ([(⟨a1_0, a1_1, a1_2⟩ : S27), (⟨a2_0, a2_1, a2_2⟩ : S27)] : List (S27))) (inner := [.int .i64 a1_0, .int .i64 a1_1, .int .i64 a1_2, .int .i64 a2_0, .int .i64 a2_1, .int .i64 a2_2]) (ok := fun _ => True) (okp := fun _ => True) ?hr ?hp (fun _ hk => hk) trivial (Below.refl _ _) (Nat.le_refl _) (by simp) ?_; (case hd => rfl); (case hg => rfl); (case hr => first | (go_simp; done) | (go_simp; rfl)); (case hp => exact (Reps.c3 (show Kd.M k27 _ _ _ (⟨a1_0, a1_1, a1_2⟩ : S27) [.int .i64 a1_0, .int .i64 a1_1, .int .i64 a1_2] from (k27_mkM _ _ _ (⟨a1_0, a1_1, a1_2⟩ : S27) )) (Reps.c3 (show Kd.M k27 _ _ _ (⟨a2_0, a2_1, a2_2⟩ : S27) [.int .i64 a2_0, .int .i64 a2_1, .int .i64 a2_2] from (k27_mkM _ _ _ (⟨a2_0, a2_1, a2_2⟩ : S27) )) (Reps.none _ _)))); intro v547 w41 ho42 hb hg_ hnew_; clear hg_ hnew_; (first | rw [← Ny546.out] at ho42 | (simp only [Int.reduceToNat] at ho42; rw [← Ny546.out] at ho42)); have HO548 := Aside0.mk (Kd.R_lower (Kd.R_newB (Kd.R_newB ho42 (g := gb544) (o := .cells #[.int .i64 a1_0, .int .i64 a1_1, .int .i64 a1_2] 27 (0, 0)) (be BK544)) (g := gb545) (o := .cells #[.int .i64 a2_0, .int .i64 a2_1, .int .i64 a2_2] 27 (0, 0)) (be BK545)) (below_size (bl))); replace BK544 := bb BK544 hb; replace BK545 := bb BK545 hb; replace HB := bs hb; clear hb ho42; obtain ⟨Ao43, co43, eo43⟩ := Kd.R_slice HO548.out; subst eo43) | ((with_reducible refine zf 81 rfl ?_); refine g1 (some 13) Try.func81 #[.int .i64 a0, .slice Ao43 y546.length co43] ?_; (with_reducible refine (spec_l01Code.calls k a0 _ _ y546 t549 _ ?side1 ?side2 A4.out).mono ?_); (case side1 => repeat (first | exact (Kd.R_reads' HO548.out).2.2 | (with_reducible refine Kd.C_alloc ?_ _) | (with_reducible refine Kd.C_drewN ?_ _) | (with_reducible refine Kd.C_drew ?_))); (case side2 => exact (Kd.R_reads' HO548.out).2.1); rintro e w44 ⟨rfl, hb⟩; refine ⟨_, rfl, ?_⟩; replace HO548 := Aside0.mk (Kd.R_below (by (with_reducible repeat (first | apply Kd.R_alloc | apply Kd.R_drewN | apply Kd.R_drew)); exact HO548.out) hb); replace BK544 := bb BK544 hb; replace BK545 := bb BK545 hb; replace HB := bs hb; (try clear hb)))
  go_ret2
  exact ⟨er, bl⟩

/-! ### spec_DrawValuationOf: function 74 -/
def spec_DrawValuationOf.f (k : Nat) (l0 : List Int) : Option (Int × Int × Int) := (spec_l01From.f k l0).bind fun bt552 => ((spec_l01Pick.f bt552.1 bt552.2.1 bt552.2.2 (([2, 3, 5, 7, 7, 4] : List Int))).bind fun bt559 => ((spec_l01Parts.f k bt552.1 bt559.2.1 bt559.2.2 bt559.1 100000000000000000).bind fun bt562 => (some (bt559.1, bt562.1, bt562.2.1))))
set_option maxHeartbeats 8000000 in
set_option maxRecDepth 100000 in
theorem spec_DrawValuationOf.calls (k : Nat) (A0 : Option Addr) (c0 : Nat) (l0 : List Int) (r1 : Int) (r2 : Int) (r3 : Int) (w : World) (hr0 : Kd.C (Kd.int .u8) w A0 l0.length l0) (hc0 : l0.length ≤ c0) (h : spec_DrawValuationOf.f k l0 = some (r1, r2, r3)) :
  Calls Try.prog 74 #[.slice A0 l0.length c0] w fun e w' => e = .returned (.tuple #[.int .i64 r1, .int .i64 r2, .int .i64 r3]) ∧ Below w.heap.size w w' := by
 have HR0 := Aside0.mk hr0
 have HC0 := Aside0.mk hc0
 clear hr0 hc0
 have HB := Aside0.mk (Below.refl w.heap.size w)
 unfold spec_DrawValuationOf.f at h
 have H := h
 clear h
 replace H := zi H
 obtain ⟨⟨t552, t553, t554⟩, A2, H⟩ := H
 try dsimp only at H
 obtain ⟨y556, hy556⟩ : ∃ y_ : List Int, y_ = (([2, 3, 5, 7, 7, 4] : List Int)) := ⟨_, rfl⟩
 replace H : ((spec_l01Pick.f t552 t553 t554 y556).bind fun bt559 => ((spec_l01Parts.f k t552 bt559.2.1 bt559.2.2 bt559.1 100000000000000000).bind fun bt562 => (some (bt559.1, bt562.1, bt562.2.1)))) = some (r1, r2, r3) := by first | exact hy556 ▸ H | exact H
 have Ny556 := Aside0.mk hy556
 clear hy556
 replace H := zi H
 obtain ⟨⟨t559, t560, t561⟩, A3, H⟩ := H
 try dsimp only at H
 replace H := zi H
 obtain ⟨⟨t562, t563, t564, t565⟩, A4, H⟩ := H
 try dsimp only at H
 simp only [Option.some.injEq, Prod.mk.injEq] at H
 obtain ⟨rfl, rfl, rfl⟩ := H
 go_enter Try.func74, Try.ntmps74
 go_wp2_with (first | ((with_reducible refine zf 98 rfl ?_); refine g1 (some 10) Try.func98 #[.slice A0 l0.length c0] ?_; (with_reducible refine (spec_l01From.calls k _ _ l0 t552 t553 t554 w _ ?side1 ?side2 ?side3 A2.out).mono ?_); (case side1 => exact bl); (case side2 => exact HR0.out); (case side3 => exact HC0.out); rintro e w5 ⟨g555, rfl, hi, hb, hb2⟩; refine ⟨_, rfl, ?_⟩; have HI555 := Aside0.mk (hi); replace HB := Aside0.mk (hb); (try clear hb); (try clear hb2); (try clear hk); (try clear hi)) | ((with_reducible refine zg 12 rfl ?_); refine Kd.R_lit (Kd.int .i64) _ 2 ?hg (N := 12) ?hd (xs := ([2, 3, 5, 7, 7, 4] : List Int)) (inner := [.int .i64 2, .int .i64 3, .int .i64 5, .int .i64 7, .int .i64 7, .int .i64 4]) (ok := fun _ => True) (okp := fun _ => True) ?hr ?hp (fun _ hk => hk) trivial (Below.refl _ _) (Nat.le_refl _) (by simp) ?_; (case hd => rfl); (case hg => rfl); (case hr => first | (go_simp; done) | (go_simp; rfl)); (case hp => exact (Reps.one (show Kd.M (Kd.int .i64) _ _ _ 2 [.int .i64 2] from rfl) (Reps.one (show Kd.M (Kd.int .i64) _ _ _ 3 [.int .i64 3] from rfl) (Reps.one (show Kd.M (Kd.int .i64) _ _ _ 5 [.int .i64 5] from rfl) (Reps.one (show Kd.M (Kd.int .i64) _ _ _ 7 [.int .i64 7] from rfl) (Reps.one (show Kd.M (Kd.int .i64) _ _ _ 7 [.int .i64 7] from rfl) (Reps.one (show Kd.M (Kd.int .i64) _ _ _ 4 [.int .i64 4] from rfl) (Reps.none _ _)))))))); intro v557 w6 ho7 hb hg_ hnew_; clear hg_ hnew_; (first | rw [← Ny556.out] at ho7 | (simp only [Int.reduceToNat] at ho7; rw [← Ny556.out] at ho7)); have HO558 := Aside0.mk (Kd.R_lower ho7 (below_size (by repeat (first | (with_reducible first | exact HB.out | apply below_alloc | apply pw_below_drewN | apply below_drew1 | refine below_set ?_ (IsS127.ge HI555.out)) | exact HB.out)))); replace HB := Aside0.mk (below_step (by repeat (first | (with_reducible first | exact HB.out | apply below_alloc | apply pw_below_drewN | apply below_drew1 | refine below_set ?_ (IsS127.ge HI555.out)) | exact HB.out)) hb); replace HI555 := Aside0.mk (IsS127.below (by repeat (first | (with_reducible first | exact HI555.out | apply IsS127.alloc | apply IsS127.drewN | apply IsS127.drew | apply IsS127.set_1 | apply IsS127.set_2) | exact HI555.out)) hb); clear hb ho7; obtain ⟨Ao8, co8, eo8⟩ := Kd.R_slice HO558.out; subst eo8) | ((with_reducible refine zf 100 rfl ?_); refine g1 (some 13) Try.func100 #[.pointer (some ⟨g555, 0, none⟩), .slice Ao8 y556.length co8] ?_; (with_reducible refine (spec_l01Pick.calls g555 t552 t553 t554 _ _ y556 t559 t560 t561 w _ ?side1 ?side2 ?side3 ?side4 ?side5 A3.out).mono ?_); (case side1 => repeat (first | (with_reducible first | exact HI555.out | apply IsS127.alloc | apply IsS127.drewN | apply IsS127.drew | apply IsS127.set_1 | apply IsS127.set_2) | exact HI555.out)); (case side2 => repeat (first | (with_reducible first | exact HB.out | apply below_alloc | apply pw_below_drewN | apply below_drew1 | refine below_set ?_ (IsS127.ge HI555.out)) | exact HB.out)); (case side3 => repeat (first | exact (Kd.R_reads' HO558.out).2.2 | (with_reducible refine Kd.C_alloc ?_ _) | (with_reducible refine Kd.C_drewN ?_ _) | (with_reducible refine Kd.C_drew ?_))); (case side4 => exact (Kd.R_reads' HO558.out).2.1); (case side5 => exact far_slice (IsS127.own_ne HI555.out HO558.out (by decide))); rintro e w9 ⟨rfl, hi, hb, hk⟩; refine ⟨_, rfl, ?_⟩; replace HO558 := Aside0.mk (Kd.R_mono (Kd.R_keep (IsS127.apart (show IsS127 w _ g555 t552 t553 t554 from by repeat (first | (with_reducible first | exact HI555.out | apply IsS127.alloc | apply IsS127.drewN | apply IsS127.drew | apply IsS127.set_1 | apply IsS127.set_2) | exact HI555.out)) (by (with_reducible repeat (first | apply Kd.R_alloc | apply Kd.R_drewN | apply Kd.R_drew)); exact HO558.out) (by decide)) hk (fun _ h => h.2)) (fun _ h => h.1)); replace HI555 := Aside0.mk (hi); replace HB := Aside0.mk (hb); (try clear hb hk)) | ((with_reducible refine zf 126 rfl ?_); refine g1 (some 17) Try.func126 #[.pointer (some ⟨g555, 0, none⟩), .int .i64 t559, .int .i64 100000000000000000] ?_; (with_reducible refine (spec_l01Parts.calls k g555 t552 t560 t561 t559 100000000000000000 t562 t563 t564 t565 w _ ?side1 ?side2 A4.out).mono ?_); (case side1 => repeat (first | (with_reducible first | exact HI555.out | apply IsS127.alloc | apply IsS127.drewN | apply IsS127.drew | apply IsS127.set_1 | apply IsS127.set_2) | exact HI555.out)); (case side2 => repeat (first | (with_reducible first | exact HB.out | apply below_alloc | apply pw_below_drewN | apply below_drew1 | refine below_set ?_ (IsS127.ge HI555.out)) | exact HB.out)); rintro e w10 ⟨rfl, hi, hb, hk⟩; refine ⟨_, rfl, ?_⟩; replace HO558 := Aside0.mk (Kd.R_mono (Kd.R_keep (IsS127.apart (show IsS127 w _ g555 t552 t560 t561 from by repeat (first | (with_reducible first | exact HI555.out | apply IsS127.alloc | apply IsS127.drewN | apply IsS127.drew | apply IsS127.set_1 | apply IsS127.set_2) | exact HI555.out)) (by (with_reducible repeat (first | apply Kd.R_alloc | apply Kd.R_drewN | apply Kd.R_drew)); exact HO558.out) (by decide)) hk (fun _ h => h.2)) (fun _ h => h.1)); replace HI555 := Aside0.mk (hi); replace HB := Aside0.mk (hb); (try clear hb hk)))
 go_ret3
 exact ⟨er, by repeat (first | (with_reducible first | exact HB.out | apply below_alloc | apply pw_below_drewN | apply below_drew1 | refine below_set ?_ (IsS127.ge HI555.out)) | exact HB.out)⟩

/-! ### impl_ValuationOf: function 75 -/
def impl_ValuationOf.j0 : Nat → Int → Int → Int → Bool → Option (Int × Int)
 | 0, _, _, _, _ => none
 | k + 1, x0, x1, x2, x18 => if x18 = true then (some (0, 5)) else ((impl_valuation.f k x0 x1).bind fun t571 => ((impl_valuation.f k x0 x2).bind fun t572 => (some (wrap64 (t571 - t572), 0))))
def impl_ValuationOf.f (k : Nat) (a0 : Int) (a1 : Int) (a2 : Int) : Option (Int × Int) := (impl_isPrime.f a0).bind fun t566 => (if t566 = true then ((impl_within.f k 100000000000000000 (([a1, a2] : List Int))).bind fun t570 => (if t570 = true then (if a1 = 0 then (impl_ValuationOf.j0 k a0 a1 a2 true) else (impl_ValuationOf.j0 k a0 a1 a2 (a2 == 0))) else (some (0, 2)))) else (some (0, 1)))
set_option maxHeartbeats 8000000 in
set_option maxRecDepth 100000 in
theorem impl_ValuationOf.calls (k : Nat) (a0 : Int) (a1 : Int) (a2 : Int) (r1 : Int) (r2 : Int) (w : World) (h : impl_ValuationOf.f k a0 a1 a2 = some (r1, r2)) :
  Calls Try.prog 75 #[.int .i64 a0, .int .i64 a1, .int .i64 a2] w fun e w' => e = .returned (.tuple #[.int .i64 r1, .int .i64 r2]) ∧ Below w.heap.size w w' := by
 have HB := Aside0.mk (Below.refl w.heap.size w)
 unfold impl_ValuationOf.f at h
 have H := h
 clear h
 replace H := zi H
 obtain ⟨t566, A4, H⟩ := H
 try dsimp only at H
 by_cases c5 : t566 = true
 ·subst c5
  rw [if_pos rfl] at H
  obtain ⟨y567, hy567⟩ : ∃ y_ : List Int, y_ = (([a1, a2] : List Int)) := ⟨_, rfl⟩
  replace H : ((impl_within.f k 100000000000000000 y567).bind fun t570 => (if t570 = true then (if a1 = 0 then (impl_ValuationOf.j0 k a0 a1 a2 true) else (impl_ValuationOf.j0 k a0 a1 a2 (a2 == 0))) else (some (0, 2)))) = some (r1, r2) := by first | exact hy567 ▸ H | exact H
  have Ny567 := Aside0.mk hy567
  clear hy567
  replace H := zi H
  obtain ⟨t570, A6, H⟩ := H
  try dsimp only at H
  by_cases c7 : t570 = true
  ·subst c7
   rw [if_pos rfl] at H
   have HC8 := Aside0.mk H
   clear H
   go_enter Try.func75, Try.ntmps75
   go_upto_region 5 with (first | ((with_reducible refine zf 119 rfl ?_); refine g1 (some 10) Try.func119 #[.int .i64 a0] ?_; (with_reducible refine (impl_isPrime.calls a0 true _ A4.out).mono ?_); rintro e w' ⟨rfl, ⟨nd, rfl⟩⟩; refine ⟨_, rfl, ?_⟩) | ((with_reducible refine zg 15 rfl ?_); refine Kd.R_lit (Kd.int .i64) _ 2 ?hg (N := 15) ?hd (xs := ([a1, a2] : List Int)) (inner := [.int .i64 a1, .int .i64 a2]) (ok := fun _ => True) (okp := fun _ => True) ?hr ?hp (fun _ hk => hk) trivial (Below.refl _ _) (Nat.le_refl _) (by simp) ?_; (case hd => rfl); (case hg => rfl); (case hr => first | (go_simp; done) | (go_simp; rfl)); (case hp => exact (Reps.one (show Kd.M (Kd.int .i64) _ _ _ a1 [.int .i64 a1] from rfl) (Reps.one (show Kd.M (Kd.int .i64) _ _ _ a2 [.int .i64 a2] from rfl) (Reps.none _ _)))); intro v568 w9 ho10 hb hg_ hnew_; clear hg_ hnew_; (first | rw [← Ny567.out] at ho10 | (simp only [Int.reduceToNat] at ho10; rw [← Ny567.out] at ho10)); have HO569 := Aside0.mk (Kd.R_lower ho10 (below_size (bl))); replace HB := bs hb; clear hb ho10; obtain ⟨Ao11, co11, eo11⟩ := Kd.R_slice HO569.out; subst eo11) | ((with_reducible refine zf 127 rfl ?_); refine g1 (some 16) Try.func127 #[.int .i64 100000000000000000, .slice Ao11 y567.length co11] ?_; (with_reducible refine (impl_within.calls k 100000000000000000 _ _ y567 true _ ?side1 ?side2 A6.out).mono ?_); (case side1 => repeat (first | exact (Kd.R_reads' HO569.out).2.2 | (with_reducible refine Kd.C_alloc ?_ _) | (with_reducible refine Kd.C_drewN ?_ _) | (with_reducible refine Kd.C_drew ?_))); (case side2 => exact (Kd.R_reads' HO569.out).2.1); rintro e w' ⟨rfl, ⟨nd, rfl⟩⟩; refine ⟨_, rfl, ?_⟩))
   (try simp only [Act.put, zq, zr, zt])
   go_cut [18] (fun v18 wc => ∃ (kq : Nat) (x18_7 : Bool), v18 = .bool x18_7 ∧ Aside0 (impl_ValuationOf.j0 kq a0 a1 a2 x18_7 = some (r1, r2)) ∧ Aside0 (kq ≤ k) ∧ Aside0 (Below w.heap.size w wc))
   case first =>
    have H := HC8.out
    clear HC8
    replace H := ii H
    rcases H with ⟨c12, H⟩ | ⟨c12, H⟩
    ·obtain ⟨c12b0, c12b1⟩ := zz c12
     clear c12
     (first | rw [c12b0] | (simp only [i64_w, i32_w]; rw [c12b0]) | skip)
     have H' := Aside0.mk H
     clear H
     go_wp2
     go_meet
     case rel => exact ⟨_, (true), (by first | rfl | (simp; done) | (simp [*]; done)), H', ⟨by first | omega | exact Nat.le_refl _⟩, ⟨bl⟩⟩
    ·obtain ⟨c12b0, c12b1⟩ := zy c12
     (first | rw [c12b0] | (simp only [i64_w, i32_w]; rw [c12b0]) | skip)
     have H' := Aside0.mk H
     clear H
     go_wp2
     go_meet
     case rel => exact ⟨_, ((a2 == 0)), (by first | rfl | (simp; done) | (simp [*]; done)), H', ⟨by first | omega | exact Nat.le_refl _⟩, ⟨bl⟩⟩
   case rest =>
    clear HC8
    obtain ⟨kq, x18_7, rfl, HA, HJ7, HB⟩ := hcut
    cases kq with
    | zero => exact absurd HA.out (by simp [impl_ValuationOf.j0])
    | succ kj7 =>
     have H := HA.out
     clear HA
     simp only [impl_ValuationOf.j0] at H
     by_cases c13 : x18_7 = true
     ·subst c13
      rw [if_pos rfl] at H
      simp only [Option.some.injEq, Prod.mk.injEq] at H
      obtain ⟨rfl, rfl⟩ := H
      go_wp2
      go_ret2
      exact ⟨er, bl⟩
     ·replace c13 := Bool.eq_false_iff.mpr c13
      subst c13
      have H1 : ((impl_valuation.f kj7 a0 a1).bind fun t571 => ((impl_valuation.f kj7 a0 a2).bind fun t572 => (some (wrap64 (t571 - t572), 0)))) = some (r1, r2) := by rw [if_neg (show ¬ (false = true) by decide)] at H; exact H
      clear H
      have H := H1
      clear H1
      replace H := zi H
      obtain ⟨t571, A14, H⟩ := H
      try dsimp only at H
      replace H := zi H
      obtain ⟨t572, A15, H⟩ := H
      try dsimp only at H
      simp only [Option.some.injEq, Prod.mk.injEq] at H
      obtain ⟨rfl, rfl⟩ := H
      go_wp2_with (first | ((with_reducible refine zf 137 rfl ?_); refine g1 (some 27) Try.func137 #[.int .i64 a0, .int .i64 a1] ?_; (with_reducible refine (impl_valuation.calls kj7 a0 a1 t571 _ A14.out).mono ?_); rintro e w' ⟨rfl, ⟨nd, rfl⟩⟩; refine ⟨_, rfl, ?_⟩) | ((with_reducible refine zf 137 rfl ?_); refine g1 (some 30) Try.func137 #[.int .i64 a0, .int .i64 a2] ?_; (with_reducible refine (impl_valuation.calls kj7 a0 a2 t572 _ A15.out).mono ?_); rintro e w' ⟨rfl, ⟨nd, rfl⟩⟩; refine ⟨_, rfl, ?_⟩))
      go_ret2
      exact ⟨er, bl⟩
  ·replace c7 := Bool.eq_false_iff.mpr c7
   subst c7
   have H1 : (some (0, 2)) = some (r1, r2) := by rw [if_neg (show ¬ (false = true) by decide)] at H; exact H
   clear H
   have H := H1
   clear H1
   simp only [Option.some.injEq, Prod.mk.injEq] at H
   obtain ⟨rfl, rfl⟩ := H
   go_enter Try.func75, Try.ntmps75
   go_wp2_with (first | ((with_reducible refine zf 119 rfl ?_); refine g1 (some 10) Try.func119 #[.int .i64 a0] ?_; (with_reducible refine (impl_isPrime.calls a0 true _ A4.out).mono ?_); rintro e w' ⟨rfl, ⟨nd, rfl⟩⟩; refine ⟨_, rfl, ?_⟩) | ((with_reducible refine zg 15 rfl ?_); refine Kd.R_lit (Kd.int .i64) _ 2 ?hg (N := 15) ?hd (xs := ([a1, a2] : List Int)) (inner := [.int .i64 a1, .int .i64 a2]) (ok := fun _ => True) (okp := fun _ => True) ?hr ?hp (fun _ hk => hk) trivial (Below.refl _ _) (Nat.le_refl _) (by simp) ?_; (case hd => rfl); (case hg => rfl); (case hr => first | (go_simp; done) | (go_simp; rfl)); (case hp => exact (Reps.one (show Kd.M (Kd.int .i64) _ _ _ a1 [.int .i64 a1] from rfl) (Reps.one (show Kd.M (Kd.int .i64) _ _ _ a2 [.int .i64 a2] from rfl) (Reps.none _ _)))); intro v568 w16 ho17 hb hg_ hnew_; clear hg_ hnew_; (first | rw [← Ny567.out] at ho17 | (simp only [Int.reduceToNat] at ho17; rw [← Ny567.out] at ho17)); have HO569 := Aside0.mk (Kd.R_lower ho17 (below_size (bl))); replace HB := bs hb; clear hb ho17; obtain ⟨Ao18, co18, eo18⟩ := Kd.R_slice HO569.out; subst eo18) | ((with_reducible refine zf 127 rfl ?_); refine g1 (some 16) Try.func127 #[.int .i64 100000000000000000, .slice Ao18 y567.length co18] ?_; (with_reducible refine (impl_within.calls k 100000000000000000 _ _ y567 false _ ?side1 ?side2 A6.out).mono ?_); (case side1 => repeat (first | exact (Kd.R_reads' HO569.out).2.2 | (with_reducible refine Kd.C_alloc ?_ _) | (with_reducible refine Kd.C_drewN ?_ _) | (with_reducible refine Kd.C_drew ?_))); (case side2 => exact (Kd.R_reads' HO569.out).2.1); rintro e w' ⟨rfl, ⟨nd, rfl⟩⟩; refine ⟨_, rfl, ?_⟩))
   go_ret2
   exact ⟨er, bl⟩
 ·replace c5 := Bool.eq_false_iff.mpr c5
  subst c5
  have H1 : (some (0, 1)) = some (r1, r2) := by rw [if_neg (show ¬ (false = true) by decide)] at H; exact H
  clear H
  have H := H1
  clear H1
  simp only [Option.some.injEq, Prod.mk.injEq] at H
  obtain ⟨rfl, rfl⟩ := H
  go_enter Try.func75, Try.ntmps75
  go_wp2_with (first | ((with_reducible refine zf 119 rfl ?_); refine g1 (some 10) Try.func119 #[.int .i64 a0] ?_; (with_reducible refine (impl_isPrime.calls a0 false _ A4.out).mono ?_); rintro e w' ⟨rfl, ⟨nd, rfl⟩⟩; refine ⟨_, rfl, ?_⟩))
  go_ret2
  exact ⟨er, bl⟩

/-! ### spec_ValuationOf: function 76 -/
mutual
def spec_ValuationOf.j0 : Nat → Int → Int → Int → Int → Bool → Option (Int × Int)
 | 0, _, _, _, _, _ => none
 | k + 1, x0, x1, x2, x8, x20 => if x20 = true then (spec_ValuationOf.j1 k x0 x1 x2 5) else (spec_ValuationOf.j1 k x0 x1 x2 x8)
def spec_ValuationOf.j1 : Nat → Int → Int → Int → Int → Option (Int × Int)
 | 0, _, _, _, _ => none
 | k + 1, x0, x1, x2, x8 => if x8 = 0 then ((spec_l01Val.f k x0 x1).bind fun t575 => ((spec_l01Val.f k x0 x2).bind fun t576 => (some (wrap64 (t575 - t576), 0)))) else (some (0, x8))
end
def spec_ValuationOf.f (k : Nat) (a0 : Int) (a1 : Int) (a2 : Int) : Option (Int × Int) := (spec_l01Prime.f a0).bind fun t573 => (if t573 = true then ((spec_l01Fraction.f k a1 a2 100000000000000000).bind fun t574 => (if t574 = 0 then (spec_ValuationOf.j0 k a0 a1 a2 t574 (a1 == 0)) else (spec_ValuationOf.j0 k a0 a1 a2 t574 false))) else (some (0, 1)))
set_option maxHeartbeats 8000000 in
set_option maxRecDepth 100000 in
theorem spec_ValuationOf.calls (k : Nat) (a0 : Int) (a1 : Int) (a2 : Int) (r1 : Int) (r2 : Int) (w : World) (h : spec_ValuationOf.f k a0 a1 a2 = some (r1, r2)) :
  Calls Try.prog 76 #[.int .i64 a0, .int .i64 a1, .int .i64 a2] w fun e w' => e = .returned (.tuple #[.int .i64 r1, .int .i64 r2]) ∧ Drawn0 w w' := by
 unfold spec_ValuationOf.f at h
 have H := h
 clear h
 replace H := zi H
 obtain ⟨t573, A4, H⟩ := H
 try dsimp only at H
 by_cases c5 : t573 = true
 ·subst c5
  rw [if_pos rfl] at H
  replace H := zi H
  obtain ⟨t574, A6, H⟩ := H
  try dsimp only at H
  have HC7 := Aside0.mk H
  clear H
  go_enter Try.func76, Try.ntmps76
  go_upto_region 4 with (first | ((with_reducible refine zf 120 rfl ?_); refine g1 (some 10) Try.func120 #[.int .i64 a0] ?_; (with_reducible refine (spec_l01Prime.calls a0 true _ A4.out).mono ?_); rintro e w' ⟨rfl, ⟨nd, rfl⟩⟩; refine ⟨_, rfl, ?_⟩) | ((with_reducible refine zf 129 rfl ?_); refine g1 (some 14) Try.func129 #[.int .i64 a1, .int .i64 a2, .int .i64 100000000000000000] ?_; (with_reducible refine (spec_l01Fraction.calls k a1 a2 100000000000000000 t574 _ A6.out).mono ?_); rintro e w' ⟨rfl, ⟨nd, rfl⟩⟩; refine ⟨_, rfl, ?_⟩))
  (try simp only [Act.put, zq, zr, zt])
  go_cut [20] (fun v20 wc => ∃ (kq : Nat) (x20_6 : Bool), v20 = .bool x20_6 ∧ Aside0 (spec_ValuationOf.j0 kq a0 a1 a2 t574 x20_6 = some (r1, r2)) ∧ Aside0 (kq ≤ k) ∧ Drawn0 w wc)
  case first =>
   have H := HC7.out
   clear HC7
   replace H := ii H
   rcases H with ⟨c8, H⟩ | ⟨c8, H⟩
   ·obtain ⟨c8b0, c8b1⟩ := zz c8
    clear c8
    (first | rw [c8b0] | (simp only [i64_w, i32_w]; rw [c8b0]) | skip)
    have H' := Aside0.mk H
    clear H
    go_wp2
    go_meet
    case rel => exact ⟨_, ((a1 == 0)), (by first | rfl | (simp; done) | (simp [*]; done)), H', ⟨by first | omega | exact Nat.le_refl _⟩, by repeat (first | exact Drawn0.refl _ | apply Drawn0.step)⟩
   ·obtain ⟨c8b0, c8b1⟩ := zy c8
    (first | rw [c8b0] | (simp only [i64_w, i32_w]; rw [c8b0]) | skip)
    have H' := Aside0.mk H
    clear H
    go_wp2
    go_meet
    case rel => exact ⟨_, (false), (by first | rfl | (simp; done) | (simp [*]; done)), H', ⟨by first | omega | exact Nat.le_refl _⟩, by repeat (first | exact Drawn0.refl _ | apply Drawn0.step)⟩
  case rest =>
   clear HC7
   obtain ⟨kq, x20_6, rfl, HA, HJ6, ⟨mc6, rfl⟩⟩ := hcut
   cases kq with
   | zero => exact absurd HA.out (by simp [spec_ValuationOf.j0])
   | succ kj6 =>
    have H := HA.out
    clear HA
    simp only [spec_ValuationOf.j0] at H
    have HC9 := Aside0.mk H
    clear H
    go_upto_if 20 with (fail)
    go_cut [8] (fun v8 wc => ∃ (kq : Nat) (x8_8 : Int), v8 = .int .i64 x8_8 ∧ Aside0 (spec_ValuationOf.j1 kq a0 a1 a2 x8_8 = some (r1, r2)) ∧ Aside0 (kq ≤ kj6) ∧ Drawn0 w wc)
    case first =>
     have H := HC9.out
     clear HC9
     by_cases c10 : x20_6 = true
     ·subst c10
      rw [if_pos rfl] at H
      have H' := Aside0.mk H
      clear H
      go_wp2
      go_meet
      case rel => exact ⟨_, (5), (by first | rfl | (simp; done) | (simp [*]; done)), H', ⟨by have := HJ6.out; first | omega | exact Nat.le_refl _⟩, by repeat (first | exact Drawn0.refl _ | apply Drawn0.step)⟩
     ·replace c10 := Bool.eq_false_iff.mpr c10
      subst c10
      have H1 : (spec_ValuationOf.j1 kj6 a0 a1 a2 t574) = some (r1, r2) := by rw [if_neg (show ¬ (false = true) by decide)] at H; exact H
      clear H
      have H := H1
      clear H1
      have H' := Aside0.mk H
      clear H
      go_wp2
      go_meet
      case rel => exact ⟨_, (t574), (by first | rfl | (simp; done) | (simp [*]; done)), H', ⟨by have := HJ6.out; first | omega | exact Nat.le_refl _⟩, by repeat (first | exact Drawn0.refl _ | apply Drawn0.step)⟩
    case rest =>
     clear HC9
     obtain ⟨kq, x8_8, rfl, HA, HJ8, ⟨mc8, rfl⟩⟩ := hcut
     cases kq with
     | zero => exact absurd HA.out (by simp [spec_ValuationOf.j1])
     | succ kj8 =>
      have H := HA.out
      clear HA
      simp only [spec_ValuationOf.j1] at H
      replace H := ii H
      rcases H with ⟨c11, H⟩ | ⟨c11, H⟩
      ·obtain ⟨c11b0, c11b1⟩ := zz c11
       clear c11
       replace H := zi H
       obtain ⟨t575, A12, H⟩ := H
       try dsimp only at H
       replace H := zi H
       obtain ⟨t576, A13, H⟩ := H
       try dsimp only at H
       simp only [Option.some.injEq, Prod.mk.injEq] at H
       obtain ⟨rfl, rfl⟩ := H
       go_wp2_with (first | ((with_reducible refine zf 138 rfl ?_); refine g1 (some 26) Try.func138 #[.int .i64 a0, .int .i64 a1] ?_; (with_reducible refine (spec_l01Val.calls kj8 a0 a1 t575 _ A12.out).mono ?_); rintro e w' ⟨rfl, ⟨nd, rfl⟩⟩; refine ⟨_, rfl, ?_⟩) | ((with_reducible refine zf 138 rfl ?_); refine g1 (some 29) Try.func138 #[.int .i64 a0, .int .i64 a2] ?_; (with_reducible refine (spec_l01Val.calls kj8 a0 a2 t576 _ A13.out).mono ?_); rintro e w' ⟨rfl, ⟨nd, rfl⟩⟩; refine ⟨_, rfl, ?_⟩))
       go_ret2
       exact zx
      ·obtain ⟨c11b0, c11b1⟩ := zy c11
       simp only [Option.some.injEq, Prod.mk.injEq] at H
       obtain ⟨rfl, rfl⟩ := H
       go_wp2
       go_ret2
       exact zx
 ·replace c5 := Bool.eq_false_iff.mpr c5
  subst c5
  have H1 : (some (0, 1)) = some (r1, r2) := by rw [if_neg (show ¬ (false = true) by decide)] at H; exact H
  clear H
  have H := H1
  clear H1
  simp only [Option.some.injEq, Prod.mk.injEq] at H
  obtain ⟨rfl, rfl⟩ := H
  go_enter Try.func76, Try.ntmps76
  go_wp2_with (first | ((with_reducible refine zf 120 rfl ?_); refine g1 (some 10) Try.func120 #[.int .i64 a0] ?_; (with_reducible refine (spec_l01Prime.calls a0 false _ A4.out).mono ?_); rintro e w' ⟨rfl, ⟨nd, rfl⟩⟩; refine ⟨_, rfl, ?_⟩))
  go_ret2
  exact zx

end Go.Proofs.Ytpmepopagapeiaa.PFnBalls

-- Printed by the kit's print and repaired by a program of this session.
import Derived.Test.YtpmepopagapeiaaPFnMediansx0
import Derived.Test.YtpmepopagapeiaaPFnMediansx2
import Derived.Test.YtpmepopagapeiaaPFnMediansx3
import Derived.Test.YtpmepopagapeiaaPFnMediansx9
import Derived.Test.YtpmepopagapeiaaPFnMediansx12
namespace Go.Proofs.Ytpmepopagapeiaa.PFnMedians
open Go.RowKit Go.Proofs.YtpmepopagapeiaaW.PrintWords Go.Proofs.YtpmepopagapeiaaW.PrintLast Go.Proofs.YtpmepopagapeiaaW.PrintMore
attribute [local go_sem] max2_int min2_int max_two min_two max_three min_three max_four min_four
set_option linter.unusedVariables false
set_option linter.unusedSimpArgs false

/-! ### impl_MedianOf: function 52 -/
def impl_MedianOf.l0 : Nat → List (S27) → Int → Int → Int → Int → Int → Option (Int × Int × Int × Int)
 | 0, _, _, _, _, _, _ => none
 | k + 1, x33, x34, x35, x515000, x515001, x515002 => if x35 < x34 then (if 0 ≤ x35 then (if x35 < (x33.length : Int) then (if ((rd_T27 x33 x35).f0) > x515000 then (impl_MedianOf.l0 k x33 x34 (wrap64 (x35 + 1)) ((rd_T27 x33 x35).f0) ((rd_T27 x33 x35).f1) ((rd_T27 x33 x35).f2)) else (impl_MedianOf.l0 k x33 x34 (wrap64 (x35 + 1)) x515000 x515001 x515002)) else (none)) else (none)) else (some (x515000, x515001, x515002, 0))
def impl_MedianOf.f (k : Nat) (a0 : Int) (a1_0 : Int) (a1_1 : Int) (a1_2 : Int) (a2_0 : Int) (a2_1 : Int) (a2_2 : Int) (a3_0 : Int) (a3_1 : Int) (a3_2 : Int) : Option (Int × Int × Int × Int) := (impl_areBalls.f k a0 (([(⟨a1_0, a1_1, a1_2⟩ : S27), (⟨a2_0, a2_1, a2_2⟩ : S27), (⟨a3_0, a3_1, a3_2⟩ : S27)] : List (S27)))).bind fun t510 => (if t510 = true then ((impl_join.f k a0 a1_0 a1_1 a1_2 a2_0 a2_1 a2_2).bind fun bt511 => ((impl_join.f k a0 a1_0 a1_1 a1_2 a3_0 a3_1 a3_2).bind fun bt515 => ((impl_join.f k a0 a2_0 a2_1 a2_2 a3_0 a3_1 a3_2).bind fun bt518 => ((some (([(⟨bt515.1, bt515.2.1, bt515.2.2⟩ : S27), (⟨bt518.1, bt518.2.1, bt518.2.2⟩ : S27)] : List (S27)) : List (S27))).bind fun y521 => (impl_MedianOf.l0 k y521 (y521.length : Int) 0 bt511.1 bt511.2.1 bt511.2.2))))) else (some (0, 0, 0, 1)))
def impl_MedianOf.T4 : Bool × List (List Nat × List Nat) := (true, [([], []), ([], []), ([], []), ([0, 1, 2], [0, 1, 2]), ([], []), ([], []), ([], []), ([4, 5, 6, 3], [4, 5, 6]), ([3, 7], [3, 7]), ([8], [8]), ([], [])])
def impl_MedianOf.B4 : List Nat := [0, 0, 0, 7, 0, 0, 0, 127, 255, 511, 0]
theorem impl_MedianOf.tab4 : rtab .any (opsOf Try.f52 4) = impl_MedianOf.T4 := by kernel_rfl
theorem impl_MedianOf.bits4 : waitsOk impl_MedianOf.T4.2 impl_MedianOf.B4 = true := by kernel_rfl
set_option maxHeartbeats 8000000 in
set_option maxRecDepth 100000 in
theorem impl_MedianOf.calls (k : Nat) (a0 : Int) (a1_0 : Int) (a1_1 : Int) (a1_2 : Int) (a2_0 : Int) (a2_1 : Int) (a2_2 : Int) (a3_0 : Int) (a3_1 : Int) (a3_2 : Int) (r1 : Int) (r2 : Int) (r3 : Int) (r4 : Int) (w : World) (h : impl_MedianOf.f k a0 a1_0 a1_1 a1_2 a2_0 a2_1 a2_2 a3_0 a3_1 a3_2 = some (r1, r2, r3, r4)) :
  Calls Try.prog 52 #[.int .i64 a0, .agg #[.int .i64 a1_0, .int .i64 a1_1, .int .i64 a1_2], .agg #[.int .i64 a2_0, .int .i64 a2_1, .int .i64 a2_2], .agg #[.int .i64 a3_0, .int .i64 a3_1, .int .i64 a3_2]] w fun e w' => e = .returned (.tuple #[.agg #[.int .i64 r1, .int .i64 r2, .int .i64 r3], .int .i64 r4]) ∧ Below w.heap.size w w' := by
 have hu27 := Try.underlying27
 have HB := Aside0.mk (Below.refl w.heap.size w)
 unfold impl_MedianOf.f at h
 have H := h
 clear h
 obtain ⟨y507, hy507⟩ : ∃ y_ : List (S27), y_ = (([(⟨a1_0, a1_1, a1_2⟩ : S27), (⟨a2_0, a2_1, a2_2⟩ : S27), (⟨a3_0, a3_1, a3_2⟩ : S27)] : List (S27))) := ⟨_, rfl⟩
 replace H : ((impl_areBalls.f k a0 y507).bind fun t510 => (if t510 = true then ((impl_join.f k a0 a1_0 a1_1 a1_2 a2_0 a2_1 a2_2).bind fun bt511 => ((impl_join.f k a0 a1_0 a1_1 a1_2 a3_0 a3_1 a3_2).bind fun bt515 => ((impl_join.f k a0 a2_0 a2_1 a2_2 a3_0 a3_1 a3_2).bind fun bt518 => ((some (([(⟨bt515.1, bt515.2.1, bt515.2.2⟩ : S27), (⟨bt518.1, bt518.2.1, bt518.2.2⟩ : S27)] : List (S27)) : List (S27))).bind fun y521 => (impl_MedianOf.l0 k y521 (y521.length : Int) 0 bt511.1 bt511.2.1 bt511.2.2))))) else (some (0, 0, 0, 1)))) = some (r1, r2, r3, r4) := by first | exact hy507 ▸ H | exact H
 have Ny507 := Aside0.mk hy507
 clear hy507
 replace H := zi H
 obtain ⟨t510, A5, H⟩ := H
 try dsimp only at H
 by_cases c6 : t510 = true
 ·subst c6
  rw [if_pos rfl] at H
  replace H := zi H
  obtain ⟨⟨t511, t512, t513⟩, A7, H⟩ := H
  try dsimp only at H
  replace H := zi H
  obtain ⟨⟨t515, t516, t517⟩, A8, H⟩ := H
  try dsimp only at H
  replace H := zi H
  obtain ⟨⟨t518, t519, t520⟩, A9, H⟩ := H
  try dsimp only at H
  obtain ⟨y521, hy521⟩ : ∃ y_ : List (S27), y_ = (([(⟨t515, t516, t517⟩ : S27), (⟨t518, t519, t520⟩ : S27)] : List (S27))) := ⟨_, rfl⟩
  replace H : (impl_MedianOf.l0 k y521 (y521.length : Int) 0 t511 t512 t513) = some (r1, r2, r3, r4) := by first | exact hy521 ▸ H | exact H
  have Ny521 := Aside0.mk hy521
  clear hy521
  have H' := Aside0.mk H
  clear H
  go_enter Try.func52, Try.ntmps52
  try go_wp2_with (first | ((with_reducible refine zg 5 rfl ?_); refine z3 5 27 a1_0 a1_1 a1_2 ?_; intro gb503 hg w10 BK503 hb; have GW503 := sg hg; replace HB := bs hb; clear hb hg) | ((with_reducible refine zg 6 rfl ?_); refine z3 6 27 a2_0 a2_1 a2_2 ?_; intro gb504 hg w11 BK504 hb; have GW504 := sg hg; have NB503_504 := nl hg BK503; replace BK503 := bb BK503 hb; replace HB := bs hb; clear hb hg) | ((with_reducible refine zg 7 rfl ?_); refine z3 7 27 a3_0 a3_1 a3_2 ?_; intro gb505 hg w12 BK505 hb; have GW505 := sg hg; have NB503_505 := nl hg BK503; have NB504_505 := nl hg BK504; replace BK503 := bb BK503 hb; replace BK504 := bb BK504 hb; replace HB := bs hb; clear hb hg) | ((with_reducible refine zg 8 rfl ?_); refine z3 8 27 0 0 0 ?_; intro gb506 hg w13 BK506 hb; have GW506 := sg hg; have NB503_506 := nl hg BK503; have NB504_506 := nl hg BK504; have NB505_506 := nl hg BK505; replace BK503 := bb BK503 hb; replace BK504 := bb BK504 hb; replace BK505 := bb BK505 hb; replace HB := bs hb; clear hb hg; obtain ⟨hnb14, hnc14⟩ := zn NB503_504; obtain ⟨hnb15, hnc15⟩ := zn NB503_505; obtain ⟨hnb16, hnc16⟩ := zn NB503_506; obtain ⟨hcz17_0, hcz17_1, hcz17_2, hfz17_0, hfz17_1, hfz17_2⟩ := cq3 BK503; obtain ⟨hnb18, hnc18⟩ := zn NB504_505; obtain ⟨hnb19, hnc19⟩ := zn NB504_506; obtain ⟨hcz20_0, hcz20_1, hcz20_2, hfz20_0, hfz20_1, hfz20_2⟩ := cq3 BK504; obtain ⟨hnb21, hnc21⟩ := zn NB505_506; obtain ⟨hcz22_0, hcz22_1, hcz22_2, hfz22_0, hfz22_1, hfz22_2⟩ := cq3 BK505) | ((with_reducible refine zg 17 rfl ?_); refine Kd.R_lit k27 _ 27 ?hg (N := 17) ?hd (xs := ([(⟨a1_0, a1_1, a1_2⟩ : S27), (⟨a2_0, a2_1, a2_2⟩ : S27), (⟨a3_0, a3_1, a3_2⟩ : S27)] : List (S27))) (inner := [.int .i64 a1_0, .int .i64 a1_1, .int .i64 a1_2, .int .i64 a2_0, .int .i64 a2_1, .int .i64 a2_2, .int .i64 a3_0, .int .i64 a3_1, .int .i64 a3_2]) (ok := fun _ => True) (okp := fun _ => True) ?hr ?hp (fun _ hk => hk) trivial (Below.refl _ _) (Nat.le_refl _) (by simp) ?_; (case hd => rfl); (case hg => rfl); (case hr => first | (go_simp; done) | (go_simp; rfl)); (case hp => exact (Reps.c3 (show Kd.M k27 _ _ _ (⟨a1_0, a1_1, a1_2⟩ : S27) [.int .i64 a1_0, .int .i64 a1_1, .int .i64 a1_2] from (k27_mkM _ _ _ (⟨a1_0, a1_1, a1_2⟩ : S27) )) (Reps.c3 (show Kd.M k27 _ _ _ (⟨a2_0, a2_1, a2_2⟩ : S27) [.int .i64 a2_0, .int .i64 a2_1, .int .i64 a2_2] from (k27_mkM _ _ _ (⟨a2_0, a2_1, a2_2⟩ : S27) )) (Reps.c3 (show Kd.M k27 _ _ _ (⟨a3_0, a3_1, a3_2⟩ : S27) [.int .i64 a3_0, .int .i64 a3_1, .int .i64 a3_2] from (k27_mkM _ _ _ (⟨a3_0, a3_1, a3_2⟩ : S27) )) (Reps.none _ _))))); intro v508 w23 ho24 hb hg_ hnew_; clear hg_ hnew_; (first | rw [← Ny507.out] at ho24 | (simp only [Int.reduceToNat] at ho24; rw [← Ny507.out] at ho24)); have HO509 := Aside0.mk (Kd.R_lower (Kd.R_newB (Kd.R_newB (Kd.R_newB (Kd.R_newB ho24 (g := gb503) (o := .cells #[.int .i64 a1_0, .int .i64 a1_1, .int .i64 a1_2] 27 (0, 0)) (be BK503)) (g := gb504) (o := .cells #[.int .i64 a2_0, .int .i64 a2_1, .int .i64 a2_2] 27 (0, 0)) (be BK504)) (g := gb505) (o := .cells #[.int .i64 a3_0, .int .i64 a3_1, .int .i64 a3_2] 27 (0, 0)) (be BK505)) (g := gb506) (o := .cells #[.int .i64 0, .int .i64 0, .int .i64 0] 27 (0, 0)) (be BK506)) (below_size (bl))); replace BK503 := bb BK503 hb; replace BK504 := bb BK504 hb; replace BK505 := bb BK505 hb; replace BK506 := bb BK506 hb; replace HB := bs hb; clear hb ho24; obtain ⟨Ao25, co25, eo25⟩ := Kd.R_slice HO509.out; subst eo25) | ((with_reducible refine zf 83 rfl ?_); refine g1 (some 18) Try.func83 #[.int .i64 a0, .slice Ao25 y507.length co25] ?_; (with_reducible refine (impl_areBalls.calls k a0 _ _ y507 true _ ?side1 ?side2 A5.out).mono ?_); (case side1 => repeat (first | exact (Kd.R_reads' HO509.out).2.2 | (with_reducible refine Kd.C_alloc ?_ _) | (with_reducible refine Kd.C_drewN ?_ _) | (with_reducible refine Kd.C_drew ?_))); (case side2 => exact (Kd.R_reads' HO509.out).2.1); rintro e w26 ⟨rfl, hb⟩; refine ⟨_, rfl, ?_⟩; replace HO509 := Aside0.mk (Kd.R_below (by (with_reducible repeat (first | apply Kd.R_alloc | apply Kd.R_drewN | apply Kd.R_drew)); exact HO509.out) hb); replace BK503 := bb BK503 hb; replace BK504 := bb BK504 hb; replace BK505 := bb BK505 hb; replace BK506 := bb BK506 hb; replace HB := bs hb; (try clear hb); obtain ⟨hcz27_0, hcz27_1, hcz27_2, hfz27_0, hfz27_1, hfz27_2⟩ := cq3 BK503; obtain ⟨hcz28_0, hcz28_1, hcz28_2, hfz28_0, hfz28_1, hfz28_2⟩ := cq3 BK504) | ((with_reducible refine zf 112 rfl ?_); refine g1 (some 24) Try.func112 #[.int .i64 a0, .agg #[.int .i64 a1_0, .int .i64 a1_1, .int .i64 a1_2], .agg #[.int .i64 a2_0, .int .i64 a2_1, .int .i64 a2_2]] ?_; (with_reducible refine (impl_join.calls k a0 a1_0 a1_1 a1_2 a2_0 a2_1 a2_2 t511 t512 t513 _ A7.out).mono ?_); rintro e w29 ⟨rfl, hb⟩; refine ⟨_, rfl, ?_⟩; replace HO509 := Aside0.mk (Kd.R_below (by (with_reducible repeat (first | apply Kd.R_alloc | apply Kd.R_drewN | apply Kd.R_drew)); exact HO509.out) hb); replace BK503 := bb BK503 hb; replace BK504 := bb BK504 hb; replace BK505 := bb BK505 hb; replace BK506 := bb BK506 hb; replace HB := bs hb; (try clear hb)) | ((with_reducible refine zg 10 rfl ?_); refine z3 10 27 0 0 0 ?_; intro gb514 hg w30 BK514 hb; have GW514 := sg hg; have NB503_514 := nl hg BK503; have NB504_514 := nl hg BK504; have NB505_514 := nl hg BK505; have NB506_514 := nl hg BK506; replace HO509 := Aside0.mk (Kd.R_below (Kd.R_elderB (by (with_reducible repeat (first | apply Kd.R_alloc | apply Kd.R_drewN | apply Kd.R_drew)); exact HO509.out) gb514 (Nat.le_of_eq hg.symm)) hb); replace BK503 := bb BK503 hb; replace BK504 := bb BK504 hb; replace BK505 := bb BK505 hb; replace BK506 := bb BK506 hb; replace HB := bs hb; clear hb hg; obtain ⟨hnb31, hnc31⟩ := zm NB503_514; obtain ⟨hnb32, hnc32⟩ := zm NB504_514; obtain ⟨hnb33, hnc33⟩ := zm NB505_514; obtain ⟨hnb34, hnc34⟩ := zm NB506_514; obtain ⟨hcz35_0, hcz35_1, hcz35_2, hfz35_0, hfz35_1, hfz35_2⟩ := cq3 BK514))
  have n0_ : Aside0 (Kd.R k27 27 (((w30.setCell ⟨gb514, 0, none⟩ (.int .i64 t511)).setCell ⟨gb514, 1, none⟩ (.int .i64 t512)).setCell ⟨gb514, 2, none⟩ (.int .i64 t513)) w.heap.size (fun k_ => k_ ≠ gb503 ∧ k_ ≠ gb504 ∧ k_ ≠ gb505 ∧ k_ ≠ gb506 ∧ k_ ≠ gb514) (.slice Ao25 y507.length co25) y507) := ⟨by (with_reducible repeat (first | apply Kd.R_alloc | apply Kd.R_drewN | apply Kd.R_drew)); exact Kd.R_mono (Kd.R_far (p := ⟨gb514, 2, none⟩) (Kd.R_far (p := ⟨gb514, 1, none⟩) (Kd.R_far (p := ⟨gb514, 0, none⟩) (Kd.R_mono HO509.out (fun k_ hk => (⟨hk, hk.2⟩ : _ ∧ k_ ≠ gb514))) (fun _ hk => hk.2) (.int .i64 t511)) (fun _ hk => hk.2) (.int .i64 t512)) (fun _ hk => hk.2) (.int .i64 t513)) (fun _ hk => ⟨hk.1.1.1.1.1.2, ⟨hk.1.1.1.1.2, ⟨hk.1.1.1.2, ⟨hk.1.1.2, hk.1.2⟩⟩⟩⟩)⟩
  have n1_ : Aside0 ((((w30.setCell ⟨gb514, 0, none⟩ (.int .i64 t511)).setCell ⟨gb514, 1, none⟩ (.int .i64 t512)).setCell ⟨gb514, 2, none⟩ (.int .i64 t513)).heap[gb503]? = some (.cells #[.int .i64 a1_0, .int .i64 a1_1, .int .i64 a1_2] 27 (0, 0))) := ⟨bp⟩
  have n2_ : Aside0 ((((w30.setCell ⟨gb514, 0, none⟩ (.int .i64 t511)).setCell ⟨gb514, 1, none⟩ (.int .i64 t512)).setCell ⟨gb514, 2, none⟩ (.int .i64 t513)).heap[gb504]? = some (.cells #[.int .i64 a2_0, .int .i64 a2_1, .int .i64 a2_2] 27 (0, 0))) := ⟨bp⟩
  have n3_ : Aside0 ((((w30.setCell ⟨gb514, 0, none⟩ (.int .i64 t511)).setCell ⟨gb514, 1, none⟩ (.int .i64 t512)).setCell ⟨gb514, 2, none⟩ (.int .i64 t513)).heap[gb505]? = some (.cells #[.int .i64 a3_0, .int .i64 a3_1, .int .i64 a3_2] 27 (0, 0))) := ⟨bp⟩
  have n4_ : Aside0 ((((w30.setCell ⟨gb514, 0, none⟩ (.int .i64 t511)).setCell ⟨gb514, 1, none⟩ (.int .i64 t512)).setCell ⟨gb514, 2, none⟩ (.int .i64 t513)).heap[gb506]? = some (.cells #[.int .i64 0, .int .i64 0, .int .i64 0] 27 (0, 0))) := ⟨bp⟩
  have n5_ : Aside0 ((((w30.setCell ⟨gb514, 0, none⟩ (.int .i64 t511)).setCell ⟨gb514, 1, none⟩ (.int .i64 t512)).setCell ⟨gb514, 2, none⟩ (.int .i64 t513)).heap[gb514]? = some (.cells #[.int .i64 t511, .int .i64 t512, .int .i64 t513] 27 (0, 0))) := ⟨bp⟩
  have n6_ : Aside0 (Below w.heap.size w (((w30.setCell ⟨gb514, 0, none⟩ (.int .i64 t511)).setCell ⟨gb514, 1, none⟩ (.int .i64 t512)).setCell ⟨gb514, 2, none⟩ (.int .i64 t513))) := ⟨bl⟩
  (try clear HO509)
  (try clear BK503)
  (try clear BK504)
  (try clear BK505)
  (try clear BK506)
  (try clear BK514)
  (try clear HB)
  generalize (((w30.setCell ⟨gb514, 0, none⟩ (.int .i64 t511)).setCell ⟨gb514, 1, none⟩ (.int .i64 t512)).setCell ⟨gb514, 2, none⟩ (.int .i64 t513)) = w36 at n0_ n1_ n2_ n3_ n4_ n5_ n6_ ⊢
  have HO509 := n0_
  have BK503 := n1_
  have BK504 := n2_
  have BK505 := n3_
  have BK506 := n4_
  have BK514 := n5_
  have HB := n6_
  clear n0_ n1_ n2_ n3_ n4_ n5_ n6_
  replace HO509 := Aside0.mk (Kd.R_drew HO509.out)
  replace BK503 := Aside0.mk (blk_drew BK503.out)
  replace BK504 := Aside0.mk (blk_drew BK504.out)
  replace BK505 := Aside0.mk (blk_drew BK505.out)
  replace BK506 := Aside0.mk (blk_drew BK506.out)
  replace BK514 := Aside0.mk (blk_drew BK514.out)
  replace HB := Aside0.mk (below_drew1 HB.out)
  refine sw 11 (fun w' => w'.cell? ⟨gb503, 0, none⟩ = some (.int .i64 a1_0) ∧ w'.cell? ⟨gb503, 1, none⟩ = some (.int .i64 a1_1) ∧ w'.cell? ⟨gb503, 2, none⟩ = some (.int .i64 a1_2) ∧ w'.cell? ⟨gb505, 0, none⟩ = some (.int .i64 a3_0) ∧ w'.cell? ⟨gb505, 1, none⟩ = some (.int .i64 a3_1) ∧ w'.cell? ⟨gb505, 2, none⟩ = some (.int .i64 a3_2) ∧ w'.cell? ⟨gb504, 0, none⟩ = some (.int .i64 a2_0) ∧ w'.cell? ⟨gb504, 1, none⟩ = some (.int .i64 a2_1) ∧ w'.cell? ⟨gb504, 2, none⟩ = some (.int .i64 a2_2)) impl_MedianOf.tab4 impl_MedianOf.bits4 (e3r BK503 (e3r BK505 (e3 BK504))) (fun hHeld HT_ HW_ => ?_)
  generalize w36.drew = w37 at HO509 BK503 BK504 BK505 BK506 BK514 HB hHeld ⊢
  refine pu 0 (some 25) (tA 11 1) HT_ ?_
  refine pu 4 (some 29) (tA 11 17) HT_ ?_
  refine pu 10 (some 35) (tA 11 1041) HT_ ?_
  refine tk9 1 (some 26) (tA 11 1043) HT_ HW_ hHeld ?_
  refine tk9 2 (some 27) (tA 11 1047) HT_ HW_ hHeld ?_
  refine tk9 5 (some 30) (tA 11 1079) HT_ HW_ hHeld ?_
  refine tk9 6 (some 31) (tA 11 1143) HT_ HW_ hHeld ?_
  refine o1 3 (some 28) (tA 11 1151) HT_ (fun K hK => ?_)
  refine gs Try.func112 #[.int .i64 a0, .agg #[.int .i64 a1_0, .int .i64 a1_1, .int .i64 a1_2], .agg #[.int .i64 a3_0, .int .i64 a3_1, .int .i64 a3_2]] ?_
  with_reducible refine (impl_join.calls k a0 a1_0 a1_1 a1_2 a3_0 a3_1 a3_2 t515 t516 t517 _ A8.out).mono ?_
  rintro e w38 ⟨rfl, hb⟩
  refine ⟨_, rfl, ?_⟩
  replace HO509 := Aside0.mk (Kd.R_below (by (with_reducible repeat (first | apply Kd.R_alloc | apply Kd.R_drewN | apply Kd.R_drew)); exact HO509.out) hb)
  replace BK503 := bb BK503 hb
  replace BK504 := bb BK504 hb
  replace BK505 := bb BK505 hb
  replace BK506 := bb BK506 hb
  replace BK514 := bb BK514 hb
  replace HB := bs hb
  (try clear hb)
  (try clear hb2)
  (try clear hk)
  (try clear hi)
  refine hK.out _ _ (e3r BK503 (e3r BK505 (e3 BK504))) (fun hHeld => ?_)
  clear hK K
  refine nm (some 28) ?_
  refine o1 7 (some 32) (tA 11 1279) HT_ (fun K hK => ?_)
  refine gs Try.func112 #[.int .i64 a0, .agg #[.int .i64 a2_0, .int .i64 a2_1, .int .i64 a2_2], .agg #[.int .i64 a3_0, .int .i64 a3_1, .int .i64 a3_2]] ?_
  with_reducible refine (impl_join.calls k a0 a2_0 a2_1 a2_2 a3_0 a3_1 a3_2 t518 t519 t520 _ A9.out).mono ?_
  rintro e w39 ⟨rfl, hb⟩
  refine ⟨_, rfl, ?_⟩
  replace HO509 := Aside0.mk (Kd.R_below (by (with_reducible repeat (first | apply Kd.R_alloc | apply Kd.R_drewN | apply Kd.R_drew)); exact HO509.out) hb)
  replace BK503 := bb BK503 hb
  replace BK504 := bb BK504 hb
  replace BK505 := bb BK505 hb
  replace BK506 := bb BK506 hb
  replace BK514 := bb BK514 hb
  replace HB := bs hb
  (try clear hb)
  (try clear hb2)
  (try clear hk)
  (try clear hi)
  refine hK.out _ _ (e3r BK503 (e3r BK505 (e3 BK504))) (fun hHeld => ?_)
  clear hK K
  refine nm (some 32) ?_
  refine o1 8 (some 33) (tA 11 1535) HT_ (fun K hK => ?_)
  refine Kd.R_lit_step k27 _ 27 ?hg (N := 33) ?hd (xs := ([(⟨t515, t516, t517⟩ : S27), (⟨t518, t519, t520⟩ : S27)] : List (S27))) (inner := [.int .i64 t515, .int .i64 t516, .int .i64 t517, .int .i64 t518, .int .i64 t519, .int .i64 t520]) (ok := fun _ => True) (okp := fun _ => True) ?hr ?hp (fun _ hk => hk) trivial (Below.refl _ _) (Nat.le_refl _) (by simp) ?_; (case hd => rfl); (case hg => rfl); (case hr => first | (go_simp; done) | (go_simp; rfl)); (case hp => exact (Reps.c3 (show Kd.M k27 _ _ _ (⟨t515, t516, t517⟩ : S27) [.int .i64 t515, .int .i64 t516, .int .i64 t517] from (k27_mkM _ _ _ (⟨t515, t516, t517⟩ : S27) )) (Reps.c3 (show Kd.M k27 _ _ _ (⟨t518, t519, t520⟩ : S27) [.int .i64 t518, .int .i64 t519, .int .i64 t520] from (k27_mkM _ _ _ (⟨t518, t519, t520⟩ : S27) )) (Reps.none _ _))))
  intro v522 w40 ho41 hb hg_ hnew_
  clear hg_ hnew_
  (first | rw [← Ny521.out] at ho41 | (simp only [Int.reduceToNat] at ho41; rw [← Ny521.out] at ho41))
  have HO523 := Aside0.mk (Kd.R_lower (Kd.R_newB (Kd.R_newB (Kd.R_newB (Kd.R_newB (Kd.R_newB (Kd.R_new' ho41 (Kd.R_lt (by (with_reducible repeat (first | apply Kd.R_alloc | apply Kd.R_drewN | apply Kd.R_drew)); exact HO509.out))) (g := gb503) (o := .cells #[.int .i64 a1_0, .int .i64 a1_1, .int .i64 a1_2] 27 (0, 0)) (be BK503)) (g := gb504) (o := .cells #[.int .i64 a2_0, .int .i64 a2_1, .int .i64 a2_2] 27 (0, 0)) (be BK504)) (g := gb505) (o := .cells #[.int .i64 a3_0, .int .i64 a3_1, .int .i64 a3_2] 27 (0, 0)) (be BK505)) (g := gb506) (o := .cells #[.int .i64 0, .int .i64 0, .int .i64 0] 27 (0, 0)) (be BK506)) (g := gb514) (o := .cells #[.int .i64 t511, .int .i64 t512, .int .i64 t513] 27 (0, 0)) (be BK514)) (below_size (bl)))
  replace HO509 := Aside0.mk (Kd.R_elder' (by (with_reducible repeat (first | apply Kd.R_alloc | apply Kd.R_drewN | apply Kd.R_drew)); exact HO509.out) (Kd.R_base ho41) hb)
  replace BK503 := bb BK503 hb
  replace BK504 := bb BK504 hb
  replace BK505 := bb BK505 hb
  replace BK506 := bb BK506 hb
  replace BK514 := bb BK514 hb
  replace HB := bs hb
  clear hb ho41
  obtain ⟨Ao42, co42, eo42⟩ := Kd.R_slice HO523.out
  (first | subst eo42 | (injection eo42 with f1_ f2_ f3_; have f4_ := f1_.symm; have f5_ := f3_.symm; clear f1_ f2_ f3_; subst f4_; subst f5_))
  refine hK.out _ _ (e3r BK503 (e3r BK505 (e3 BK504))) (fun hHeld => ?_)
  clear hK K
  refine nm (some 33) ?_
  refine pu 9 (some 34) (tA 11 2047) HT_ ?_
  refine done_ (done_of HT_.out (by kernel_rfl)) ?_
  try go_wp2
  go_loopg [35] k (fun kq v35 w' => ∃ (x35_1 : Int) (x515000_1 : Int) (x515001_1 : Int) (x515002_1 : Int), v35 = .int .i64 x35_1 ∧ Aside0 (impl_MedianOf.l0 kq y521 (y521.length : Int) x35_1 x515000_1 x515001_1 x515002_1 = some (r1, r2, r3, r4)) ∧ Aside0 (kq ≤ k) ∧ Aside0 (Kd.R k27 27 w' w.heap.size (fun k_ => k_ ≠ gb503 ∧ k_ ≠ gb504 ∧ k_ ≠ gb505 ∧ k_ ≠ gb506 ∧ k_ ≠ gb514) (.slice Ao42 y521.length co42) y521) ∧ Aside0 (w'.heap[gb503]? = some (.cells #[.int .i64 a1_0, .int .i64 a1_1, .int .i64 a1_2] 27 (0, 0))) ∧ Aside0 (w'.heap[gb504]? = some (.cells #[.int .i64 a2_0, .int .i64 a2_1, .int .i64 a2_2] 27 (0, 0))) ∧ Aside0 (w'.heap[gb505]? = some (.cells #[.int .i64 a3_0, .int .i64 a3_1, .int .i64 a3_2] 27 (0, 0))) ∧ Aside0 (w'.heap[gb506]? = some (.cells #[.int .i64 0, .int .i64 0, .int .i64 0] 27 (0, 0))) ∧ Aside0 (w'.heap[gb514]? = some (.cells #[.int .i64 x515000_1, .int .i64 x515001_1, .int .i64 x515002_1] 27 (0, 0))) ∧ Aside0 (Below w.heap.size w w'))
  case atStart => exact ⟨(0), (t511), (t512), (t513), (by first | rfl | (simp; done) | (simp [*]; done)), H', ⟨Nat.le_refl _⟩, ⟨by (with_reducible repeat (first | apply Kd.R_alloc | apply Kd.R_drewN | apply Kd.R_drew)); exact Kd.R_mono HO523.out (fun _ hk => ⟨hk.1.1.1.1.2, ⟨hk.1.1.1.2, ⟨hk.1.1.2, ⟨hk.1.2, hk.2⟩⟩⟩⟩)⟩, ⟨be BK503⟩, ⟨be BK504⟩, ⟨be BK505⟩, ⟨be BK506⟩, ⟨be BK514⟩, ⟨bl⟩⟩
  case round =>
   clear H'
   obtain ⟨x35_1, x515000_1, x515001_1, x515002_1, rfl, HA, HK1, HO_33, BK503, BK504, BK505, BK506, BK514, HB⟩ := hrel
   cases gk with
   | zero => exact absurd HA.out (by simp [impl_MedianOf.l0])
   | succ k1 =>
    have H := HA.out
    clear HA
    simp only [impl_MedianOf.l0] at H
    replace H := ii H
    rcases H with ⟨c43, H⟩ | ⟨c43, H⟩
    ·have c43b0 := decide_eq_true c43
     clear c43
     replace H := ii H
     rcases H with ⟨c44, H⟩ | ⟨c44, H⟩
     ·have c44b0 := decide_eq_true c44
      clear c44
      replace H := ii H
      rcases H with ⟨c45, H⟩ | ⟨c45, H⟩
      ·have c45b0 := decide_eq_true c45
       clear c45
       replace H := ii H
       rcases H with ⟨c46, H⟩ | ⟨c46, H⟩
       ·have c46b0 := decide_eq_true c46
        clear c46
        have H' := Aside0.mk H
        clear H
        have p524 : 0 ≤ (x35_1 : Int) := za
        have q524 : x35_1 < (y521.length : Int) := za
        obtain ⟨ad524, e524, hx524_0, hx524_1, hx524_2⟩ := at_T27 (Kd.R_reads' HO_33.out).2.2 x35_1 p524 q524
        cases e524
        replace p524 := eq_true p524
        replace q524 := eq_true q524
        go_wp2_with (first | ((with_reducible refine zg 12 rfl ?_); refine z3 12 27 0 0 0 ?_; intro gb525 hg w47 BK525 hb; have GW525 := sg hg; have NB503_525 := nl hg BK503; have NB504_525 := nl hg BK504; have NB505_525 := nl hg BK505; have NB506_525 := nl hg BK506; have NB514_525 := nl hg BK514; replace HO_33 := Aside0.mk (Kd.R_below (Kd.R_elderB (by (with_reducible repeat (first | apply Kd.R_alloc | apply Kd.R_drewN | apply Kd.R_drew)); exact HO_33.out) gb525 (Nat.le_of_eq hg.symm)) hb); replace BK503 := bb BK503 hb; replace BK504 := bb BK504 hb; replace BK505 := bb BK505 hb; replace BK506 := bb BK506 hb; replace BK514 := bb BK514 hb; replace HB := bs hb; clear hb hg; obtain ⟨hnb48, hnc48⟩ := zm NB503_525; obtain ⟨hnb49, hnc49⟩ := zm NB504_525; obtain ⟨hnb50, hnc50⟩ := zm NB505_525; obtain ⟨hnb51, hnc51⟩ := zm NB506_525; obtain ⟨hnb52, hnc52⟩ := zm NB514_525; obtain ⟨hcz53_0, hcz53_1, hcz53_2, hfz53_0, hfz53_1, hfz53_2⟩ := cq3 BK525; obtain ⟨hnb54, hnc54⟩ := zm NB503_514; obtain ⟨hnb55, hnc55⟩ := zm NB504_514; obtain ⟨hnb56, hnc56⟩ := zm NB505_514; obtain ⟨hnb57, hnc57⟩ := zm NB506_514; obtain ⟨hcz58_0, hcz58_1, hcz58_2, hfz58_0, hfz58_1, hfz58_2⟩ := cq3 BK514))
        go_roundg k1
        case measure => have := HK1.out; omega
        case rel => exact ⟨(wrap64 (x35_1 + 1)), ((rd_T27 y521 x35_1).f0), ((rd_T27 y521 x35_1).f1), ((rd_T27 y521 x35_1).f2), (by first | rfl | (simp; done) | (simp [*]; done)), H', ⟨by have := HK1.out; omega⟩, ⟨by (with_reducible repeat (first | apply Kd.R_alloc | apply Kd.R_drewN | apply Kd.R_drew)); exact Kd.R_mono (Kd.R_far (p := ⟨gb514, 2, none⟩) (Kd.R_far (p := ⟨gb514, 1, none⟩) (Kd.R_far (p := ⟨gb514, 0, none⟩) (Kd.R_far (p := ⟨gb525, 2, none⟩) (Kd.R_far (p := ⟨gb525, 1, none⟩) (Kd.R_far (p := ⟨gb525, 0, none⟩) (Kd.R_mono (Kd.R_mono HO_33.out (fun k_ hk => (⟨hk, hk.2⟩ : _ ∧ k_ ≠ gb525))) (fun k_ hk => (⟨hk, hk.1.1.2.2.2.2⟩ : _ ∧ k_ ≠ gb514))) (fun _ hk => hk.1.2) (.int .i64 ((rd_T27 y521 x35_1).f0))) (fun _ hk => hk.1.2) (.int .i64 ((rd_T27 y521 x35_1).f1))) (fun _ hk => hk.1.2) (.int .i64 ((rd_T27 y521 x35_1).f2))) (fun _ hk => hk.2) (.int .i64 ((rd_T27 y521 x35_1).f0))) (fun _ hk => hk.2) (.int .i64 ((rd_T27 y521 x35_1).f1))) (fun _ hk => hk.2) (.int .i64 ((rd_T27 y521 x35_1).f2))) (fun _ hk => ⟨hk.1.1.1.1, ⟨hk.1.1.1.2.1, ⟨hk.1.1.1.2.2.1, ⟨hk.1.1.1.2.2.2.1, hk.1.1.1.2.2.2.2⟩⟩⟩⟩)⟩, ⟨bp⟩, ⟨bp⟩, ⟨bp⟩, ⟨bp⟩, ⟨bp⟩, ⟨bl⟩⟩
       ·have c46b0 := decide_eq_false c46
        clear c46
        have H' := Aside0.mk H
        clear H
        have p524 : 0 ≤ (x35_1 : Int) := za
        have q524 : x35_1 < (y521.length : Int) := za
        obtain ⟨ad524, e524, hx524_0, hx524_1, hx524_2⟩ := at_T27 (Kd.R_reads' HO_33.out).2.2 x35_1 p524 q524
        cases e524
        replace p524 := eq_true p524
        replace q524 := eq_true q524
        go_wp2_with (first | ((with_reducible refine zg 12 rfl ?_); refine z3 12 27 0 0 0 ?_; intro gb525 hg w59 BK525 hb; have GW525 := sg hg; have NB503_525 := nl hg BK503; have NB504_525 := nl hg BK504; have NB505_525 := nl hg BK505; have NB506_525 := nl hg BK506; have NB514_525 := nl hg BK514; replace HO_33 := Aside0.mk (Kd.R_below (Kd.R_elderB (by (with_reducible repeat (first | apply Kd.R_alloc | apply Kd.R_drewN | apply Kd.R_drew)); exact HO_33.out) gb525 (Nat.le_of_eq hg.symm)) hb); replace BK503 := bb BK503 hb; replace BK504 := bb BK504 hb; replace BK505 := bb BK505 hb; replace BK506 := bb BK506 hb; replace BK514 := bb BK514 hb; replace HB := bs hb; clear hb hg; obtain ⟨hnb60, hnc60⟩ := zm NB503_525; obtain ⟨hnb61, hnc61⟩ := zm NB504_525; obtain ⟨hnb62, hnc62⟩ := zm NB505_525; obtain ⟨hnb63, hnc63⟩ := zm NB506_525; obtain ⟨hnb64, hnc64⟩ := zm NB514_525; obtain ⟨hcz65_0, hcz65_1, hcz65_2, hfz65_0, hfz65_1, hfz65_2⟩ := cq3 BK525; obtain ⟨hnb66, hnc66⟩ := zm NB503_514; obtain ⟨hnb67, hnc67⟩ := zm NB504_514; obtain ⟨hnb68, hnc68⟩ := zm NB505_514; obtain ⟨hnb69, hnc69⟩ := zm NB506_514; obtain ⟨hcz70_0, hcz70_1, hcz70_2, hfz70_0, hfz70_1, hfz70_2⟩ := cq3 BK514))
        go_roundg k1
        case measure => have := HK1.out; omega
        case rel => exact ⟨(wrap64 (x35_1 + 1)), (x515000_1), (x515001_1), (x515002_1), (by first | rfl | (simp; done) | (simp [*]; done)), H', ⟨by have := HK1.out; omega⟩, ⟨by (with_reducible repeat (first | apply Kd.R_alloc | apply Kd.R_drewN | apply Kd.R_drew)); exact Kd.R_mono (Kd.R_far (p := ⟨gb525, 2, none⟩) (Kd.R_far (p := ⟨gb525, 1, none⟩) (Kd.R_far (p := ⟨gb525, 0, none⟩) (Kd.R_mono HO_33.out (fun k_ hk => (⟨hk, hk.2⟩ : _ ∧ k_ ≠ gb525))) (fun _ hk => hk.2) (.int .i64 ((rd_T27 y521 x35_1).f0))) (fun _ hk => hk.2) (.int .i64 ((rd_T27 y521 x35_1).f1))) (fun _ hk => hk.2) (.int .i64 ((rd_T27 y521 x35_1).f2))) (fun _ hk => ⟨hk.1.1.1, ⟨hk.1.1.2.1, ⟨hk.1.1.2.2.1, ⟨hk.1.1.2.2.2.1, hk.1.1.2.2.2.2⟩⟩⟩⟩)⟩, ⟨bp⟩, ⟨bp⟩, ⟨bp⟩, ⟨bp⟩, ⟨bp⟩, ⟨bl⟩⟩
      ·exact absurd H (by simp)
     ·exact absurd H (by simp)
    ·have c43b0 := decide_eq_false c43
     clear c43
     simp only [Option.some.injEq, Prod.mk.injEq] at H
     obtain ⟨rfl, rfl, rfl, rfl⟩ := H
     obtain ⟨hnb71, hnc71⟩ := zm NB503_514
     obtain ⟨hnb72, hnc72⟩ := zm NB504_514
     obtain ⟨hnb73, hnc73⟩ := zm NB505_514
     obtain ⟨hnb74, hnc74⟩ := zm NB506_514
     obtain ⟨hcz75_0, hcz75_1, hcz75_2, hfz75_0, hfz75_1, hfz75_2⟩ := cq3 BK514
     obtain ⟨hnb76, hnc76⟩ := zm NB503_506
     obtain ⟨hnb77, hnc77⟩ := zm NB504_506
     obtain ⟨hnb78, hnc78⟩ := zm NB505_506
     obtain ⟨hcz79_0, hcz79_1, hcz79_2, hfz79_0, hfz79_1, hfz79_2⟩ := cq3 BK506
     go_wp2
     refine bodyPost_ret (results_ct rfl _ _ gb506 27 #[.int .i64 x515000_1, .int .i64 x515001_1, .int .i64 x515002_1] (0, 0) _ rfl (bp) Try.underlying27 rfl (by kernel_rfl)) rfl ?_
     exact ⟨er, bl⟩
 ·replace c6 := Bool.eq_false_iff.mpr c6
  subst c6
  have H1 : (some (0, 0, 0, 1)) = some (r1, r2, r3, r4) := by rw [if_neg (show ¬ (false = true) by decide)] at H; exact H
  clear H
  have H := H1
  clear H1
  simp only [Option.some.injEq, Prod.mk.injEq] at H
  obtain ⟨rfl, rfl, rfl, rfl⟩ := H
  go_enter Try.func52, Try.ntmps52
  go_wp2_with (first | ((with_reducible refine zg 5 rfl ?_); refine z3 5 27 a1_0 a1_1 a1_2 ?_; intro gb503 hg w80 BK503 hb; have GW503 := sg hg; replace HB := bs hb; clear hb hg) | ((with_reducible refine zg 6 rfl ?_); refine z3 6 27 a2_0 a2_1 a2_2 ?_; intro gb504 hg w81 BK504 hb; have GW504 := sg hg; have NB503_504 := nl hg BK503; replace BK503 := bb BK503 hb; replace HB := bs hb; clear hb hg) | ((with_reducible refine zg 7 rfl ?_); refine z3 7 27 a3_0 a3_1 a3_2 ?_; intro gb505 hg w82 BK505 hb; have GW505 := sg hg; have NB503_505 := nl hg BK503; have NB504_505 := nl hg BK504; replace BK503 := bb BK503 hb; replace BK504 := bb BK504 hb; replace HB := bs hb; clear hb hg) | ((with_reducible refine zg 8 rfl ?_); refine z3 8 27 0 0 0 ?_; intro gb506 hg w83 BK506 hb; have GW506 := sg hg; have NB503_506 := nl hg BK503; have NB504_506 := nl hg BK504; have NB505_506 := nl hg BK505; replace BK503 := bb BK503 hb; replace BK504 := bb BK504 hb; replace BK505 := bb BK505 hb; replace HB := bs hb; clear hb hg; obtain ⟨hnb84, hnc84⟩ := zn NB503_504; obtain ⟨hnb85, hnc85⟩ := zn NB503_505; obtain ⟨hnb86, hnc86⟩ := zn NB503_506; obtain ⟨hcz87_0, hcz87_1, hcz87_2, hfz87_0, hfz87_1, hfz87_2⟩ := cq3 BK503; obtain ⟨hnb88, hnc88⟩ := zn NB504_505; obtain ⟨hnb89, hnc89⟩ := zn NB504_506; obtain ⟨hcz90_0, hcz90_1, hcz90_2, hfz90_0, hfz90_1, hfz90_2⟩ := cq3 BK504; obtain ⟨hnb91, hnc91⟩ := zn NB505_506; obtain ⟨hcz92_0, hcz92_1, hcz92_2, hfz92_0, hfz92_1, hfz92_2⟩ := cq3 BK505) | ((with_reducible refine zg 17 rfl ?_); refine Kd.R_lit k27 _ 27 ?hg (N := 17) ?hd (xs := ([(⟨a1_0, a1_1, a1_2⟩ : S27), (⟨a2_0, a2_1, a2_2⟩ : S27), (⟨a3_0, a3_1, a3_2⟩ : S27)] : List (S27))) (inner := [.int .i64 a1_0, .int .i64 a1_1, .int .i64 a1_2, .int .i64 a2_0, .int .i64 a2_1, .int .i64 a2_2, .int .i64 a3_0, .int .i64 a3_1, .int .i64 a3_2]) (ok := fun _ => True) (okp := fun _ => True) ?hr ?hp (fun _ hk => hk) trivial (Below.refl _ _) (Nat.le_refl _) (by simp) ?_; (case hd => rfl); (case hg => rfl); (case hr => first | (go_simp; done) | (go_simp; rfl)); (case hp => exact (Reps.c3 (show Kd.M k27 _ _ _ (⟨a1_0, a1_1, a1_2⟩ : S27) [.int .i64 a1_0, .int .i64 a1_1, .int .i64 a1_2] from (k27_mkM _ _ _ (⟨a1_0, a1_1, a1_2⟩ : S27) )) (Reps.c3 (show Kd.M k27 _ _ _ (⟨a2_0, a2_1, a2_2⟩ : S27) [.int .i64 a2_0, .int .i64 a2_1, .int .i64 a2_2] from (k27_mkM _ _ _ (⟨a2_0, a2_1, a2_2⟩ : S27) )) (Reps.c3 (show Kd.M k27 _ _ _ (⟨a3_0, a3_1, a3_2⟩ : S27) [.int .i64 a3_0, .int .i64 a3_1, .int .i64 a3_2] from (k27_mkM _ _ _ (⟨a3_0, a3_1, a3_2⟩ : S27) )) (Reps.none _ _))))); intro v508 w93 ho94 hb hg_ hnew_; clear hg_ hnew_; (first | rw [← Ny507.out] at ho94 | (simp only [Int.reduceToNat] at ho94; rw [← Ny507.out] at ho94)); have HO509 := Aside0.mk (Kd.R_lower (Kd.R_newB (Kd.R_newB (Kd.R_newB (Kd.R_newB ho94 (g := gb503) (o := .cells #[.int .i64 a1_0, .int .i64 a1_1, .int .i64 a1_2] 27 (0, 0)) (be BK503)) (g := gb504) (o := .cells #[.int .i64 a2_0, .int .i64 a2_1, .int .i64 a2_2] 27 (0, 0)) (be BK504)) (g := gb505) (o := .cells #[.int .i64 a3_0, .int .i64 a3_1, .int .i64 a3_2] 27 (0, 0)) (be BK505)) (g := gb506) (o := .cells #[.int .i64 0, .int .i64 0, .int .i64 0] 27 (0, 0)) (be BK506)) (below_size (bl))); replace BK503 := bb BK503 hb; replace BK504 := bb BK504 hb; replace BK505 := bb BK505 hb; replace BK506 := bb BK506 hb; replace HB := bs hb; clear hb ho94; obtain ⟨Ao95, co95, eo95⟩ := Kd.R_slice HO509.out; subst eo95) | ((with_reducible refine zf 83 rfl ?_); refine g1 (some 18) Try.func83 #[.int .i64 a0, .slice Ao95 y507.length co95] ?_; (with_reducible refine (impl_areBalls.calls k a0 _ _ y507 false _ ?side1 ?side2 A5.out).mono ?_); (case side1 => repeat (first | exact (Kd.R_reads' HO509.out).2.2 | (with_reducible refine Kd.C_alloc ?_ _) | (with_reducible refine Kd.C_drewN ?_ _) | (with_reducible refine Kd.C_drew ?_))); (case side2 => exact (Kd.R_reads' HO509.out).2.1); rintro e w96 ⟨rfl, hb⟩; refine ⟨_, rfl, ?_⟩; replace HO509 := Aside0.mk (Kd.R_below (by (with_reducible repeat (first | apply Kd.R_alloc | apply Kd.R_drewN | apply Kd.R_drew)); exact HO509.out) hb); replace BK503 := bb BK503 hb; replace BK504 := bb BK504 hb; replace BK505 := bb BK505 hb; replace BK506 := bb BK506 hb; replace HB := bs hb; (try clear hb); obtain ⟨hcz97_0, hcz97_1, hcz97_2, hfz97_0, hfz97_1, hfz97_2⟩ := cq3 BK506))
  refine bodyPost_ret (results_ct rfl _ _ gb506 27 #[.int .i64 0, .int .i64 0, .int .i64 0] (0, 0) _ rfl (bp) Try.underlying27 rfl (by kernel_rfl)) rfl ?_
  exact ⟨er, bl⟩

/-! ### spec_l02Up: function 113 -/
def spec_l02Up.f (k : Nat) (a0 : Int) (a1_0 : Int) (a1_1 : Int) (a1_2 : Int) (a2 : Int) : Option (Int × Int × Int × Bool) := (spec_l01Power.f k a0 a1_2).bind fun t528 => ((spec_l01Of.f k a0 a1_1 t528 a2).bind fun bt529 => (some (bt529.1, bt529.2.1, bt529.2.2.1, bt529.2.2.2)))
def spec_l02Up.T1 : Bool × List (List Nat × List Nat) := (true, [([], []), ([], []), ([1], [1]), ([], []), ([], []), ([4], [4]), ([3, 5], [3, 5]), ([], []), ([0, 2, 6, 7, 6], [0, 2, 6, 7]), ([8], [8]), ([8], [8]), ([9, 8, 0, 1, 2, 3, 4, 5, 6, 7, 8, 9, 10], [9]), ([10, 11, 0, 1, 2, 3, 4, 5, 6, 7, 8, 9, 10, 11], [10])])
def spec_l02Up.B1 : List Nat := [0, 0, 2, 0, 0, 16, 56, 0, 255, 511, 511, 2047, 4095]
theorem spec_l02Up.tab1 : rtab .any (opsOf Try.f113 1) = spec_l02Up.T1 := by kernel_rfl
theorem spec_l02Up.bits1 : waitsOk spec_l02Up.T1.2 spec_l02Up.B1 = true := by kernel_rfl
set_option maxHeartbeats 8000000 in
set_option maxRecDepth 100000 in
theorem spec_l02Up.calls (k : Nat) (a0 : Int) (a1_0 : Int) (a1_1 : Int) (a1_2 : Int) (a2 : Int) (r1 : Int) (r2 : Int) (r3 : Int) (r4 : Bool) (w : World) (h : spec_l02Up.f k a0 a1_0 a1_1 a1_2 a2 = some (r1, r2, r3, r4)) :
  Calls Try.prog 113 #[.int .i64 a0, .agg #[.int .i64 a1_0, .int .i64 a1_1, .int .i64 a1_2], .int .i64 a2] w fun e w' => e = .returned (.tuple #[.agg #[.int .i64 r1, .int .i64 r2, .int .i64 r3], .bool r4]) ∧ Below w.heap.size w w' := by
 have hu27 := Try.underlying27
 have HB := Aside0.mk (Below.refl w.heap.size w)
 unfold spec_l02Up.f at h
 have H := h
 clear h
 replace H := zi H
 obtain ⟨t528, A4, H⟩ := H
 try dsimp only at H
 replace H := zi H
 obtain ⟨⟨t529, t530, t531, t532⟩, A5, H⟩ := H
 try dsimp only at H
 simp only [Option.some.injEq, Prod.mk.injEq] at H
 obtain ⟨rfl, rfl, rfl, rfl⟩ := H
 go_enter Try.func113, Try.ntmps113
 try go_wp2_with (first | ((with_reducible refine zg 4 rfl ?_); refine z3 4 27 a1_0 a1_1 a1_2 ?_; intro gb526 hg w6 BK526 hb; have GW526 := sg hg; replace HB := bs hb; clear hb hg) | ((with_reducible refine zg 6 rfl ?_); refine z3 6 27 0 0 0 ?_; intro gb527 hg w7 BK527 hb; have GW527 := sg hg; have NB526_527 := nl hg BK526; replace BK526 := bb BK526 hb; replace HB := bs hb; clear hb hg))
 replace BK526 := Aside0.mk (blk_drew BK526.out)
 replace BK527 := Aside0.mk (blk_drew BK527.out)
 replace HB := Aside0.mk (below_drew1 HB.out)
 refine sw 13 (fun w' => w'.cell? ⟨gb526, 0, none⟩ = some (.int .i64 a1_0) ∧ w'.cell? ⟨gb526, 1, none⟩ = some (.int .i64 a1_1) ∧ w'.cell? ⟨gb526, 2, none⟩ = some (.int .i64 a1_2)) spec_l02Up.tab1 spec_l02Up.bits1 (e3 BK526) (fun hHeld HT_ HW_ => ?_)
 generalize w7.drew = w8 at BK526 BK527 HB hHeld ⊢
 refine pu 0 (some 8) (tA 13 1) HT_ ?_
 refine pu 1 (some 9) (tA 13 3) HT_ ?_
 refine pu 3 (some 11) (tA 13 11) HT_ ?_
 refine pu 4 (some 12) (tA 13 27) HT_ ?_
 refine pu 7 (some 15) (tA 13 155) HT_ ?_
 refine tk3 2 (some 10) (tA 13 159) HT_ HW_ hHeld ?_
 refine tk3 5 (some 13) (tA 13 191) HT_ HW_ hHeld ?_
 refine o1 6 (some 14) (tA 13 255) HT_ (fun K hK => ?_)
 refine gs Try.func96 #[.int .i64 a0, .int .i64 a1_2] ?_
 with_reducible refine (spec_l01Power.calls k a0 a1_2 t528 _ A4.out).mono ?_
 rintro e w' ⟨rfl, ⟨nd, rfl⟩⟩
 refine ⟨_, rfl, ?_⟩
 refine hK.out _ _ (e3 BK526) (fun hHeld => ?_)
 clear hK K
 refine nm (some 14) ?_
 refine o1 8 (some 16) (tA 13 511) HT_ (fun K hK => ?_)
 refine gs Try.func97 #[.int .i64 a0, .int .i64 a1_1, .int .i64 t528, .int .i64 a2] ?_
 with_reducible refine (spec_l01Of.calls k a0 a1_1 t528 a2 t529 t530 t531 t532 _ A5.out).mono ?_
 rintro e w9 ⟨rfl, hb⟩
 refine ⟨_, rfl, ?_⟩
 replace BK526 := bb BK526 hb
 replace BK527 := bb BK527 hb
 replace HB := bs hb
 (try clear hb)
 (try clear hb2)
 (try clear hk)
 (try clear hi)
 refine hK.out _ _ (e3 BK526) (fun hHeld => ?_)
 clear hK K
 refine nm (some 16) ?_
 refine pu 9 (some 17) (tA 13 1023) HT_ ?_
 refine pu 10 (some 18) (tA 13 2047) HT_ ?_
 refine o1 11 none (tA 13 4095) HT_ (fun K hK => ?_)
 have hs10 : w9.cell? ⟨gb527, 0, none⟩ = some (.int .i64 0) := (blk_cell BK527.out 0).trans rfl
 have hfs10 := blk_frozen BK527.out 0
 obtain ⟨hns10_0, hms10_0⟩ := zn NB526_527
 have hs11 : w9.cell? ⟨gb527, 1, none⟩ = some (.int .i64 0) := (blk_cell BK527.out 1).trans rfl
 have hfs11 := blk_frozen BK527.out 1
 obtain ⟨hns11_0, hms11_0⟩ := zn NB526_527
 have hs12 : w9.cell? ⟨gb527, 2, none⟩ = some (.int .i64 0) := (blk_cell BK527.out 2).trans rfl
 have hfs12 := blk_frozen BK527.out 2
 obtain ⟨hns12_0, hms12_0⟩ := zn NB526_527
 refine skip_ (w1 := ?_) (by rfl) rfl ?_ ?_
 rotate_left
 ·go_simp
  rfl
 refine hK.out _ _ (m3 hHeld (fun e => cf gb527 NB526_527 (cf gb527 NB526_527 (cf gb527 NB526_527 e)))) (fun hHeld => ?_)
 clear hK K
 refine pu 12 (some 7) (tA 13 8191) HT_ ?_
 refine done_ (done_of HT_.out (by kernel_rfl)) ?_
 try go_wp2
 refine bodyPost_ret (results_ct rfl _ _ gb527 27 #[.int .i64 t529, .int .i64 t530, .int .i64 t531] (0, 0) _ rfl (bp) Try.underlying27 rfl (by kernel_rfl)) rfl ?_
 exact ⟨er, bl⟩

end Go.Proofs.Ytpmepopagapeiaa.PFnMedians

-- Printed by the kit's print and repaired by a program of this session.
import Derived.Test.YtpmepopagapeiaaPFnMediansx0
import Derived.Test.YtpmepopagapeiaaPFnMediansx2
import Derived.Test.YtpmepopagapeiaaPFnMediansx4
import Derived.Test.YtpmepopagapeiaaPFnMediansx9
import Derived.Test.YtpmepopagapeiaaPFnMediansx10
import Derived.Test.YtpmepopagapeiaaPFnMediansx13
namespace Go.Proofs.Ytpmepopagapeiaa.PFnMedians
open Go.RowKit Go.Proofs.YtpmepopagapeiaaW.PrintWords Go.Proofs.YtpmepopagapeiaaW.PrintLast Go.Proofs.YtpmepopagapeiaaW.PrintMore
attribute [local go_sem] max2_int min2_int max_two min_two max_three min_three max_four min_four
set_option linter.unusedVariables false
set_option linter.unusedSimpArgs false

/-! ### spec_MedianOf: function 53 -/
def spec_MedianOf.j0 : Nat → Int → Int → Int → Int → Int → Int → Int → Int → Int → Option (Int × Int × Int × Int)
 | 0, _, _, _, _, _, _, _, _, _ => none
 | k + 1, x0, x13, x15, x535000, x535001, x535002, x545000, x545001, x545002 => if x13 > x15 then ((spec_l02Up.f k x0 x535000 x535001 x535002 x13).bind fun bt545 => (if bt545.2.2.2 = true then (some (bt545.1, bt545.2.1, bt545.2.2.1, 0)) else (some (0, 0, 0, 3)))) else ((spec_l02Up.f k x0 x545000 x545001 x545002 x15).bind fun bt550 => (if bt550.2.2.2 = true then (some (bt550.1, bt550.2.1, bt550.2.2.1, 0)) else (some (0, 0, 0, 3))))
def spec_MedianOf.f (k : Nat) (a0 : Int) (a1_0 : Int) (a1_1 : Int) (a1_2 : Int) (a2_0 : Int) (a2_1 : Int) (a2_2 : Int) (a3_0 : Int) (a3_1 : Int) (a3_2 : Int) : Option (Int × Int × Int × Int) := (spec_l01Code.f k a0 (([(⟨a1_0, a1_1, a1_2⟩ : S27), (⟨a2_0, a2_1, a2_2⟩ : S27), (⟨a3_0, a3_1, a3_2⟩ : S27)] : List (S27)))).bind fun t540 => (if t540 = 0 then ((spec_l02Join.f k a0 a1_0 a1_1 a1_2 a2_0 a2_1 a2_2).bind fun t541 => ((spec_l02Join.f k a0 a1_0 a1_1 a1_2 a3_0 a3_1 a3_2).bind fun t542 => ((spec_l02Join.f k a0 a2_0 a2_1 a2_2 a3_0 a3_1 a3_2).bind fun t543 => (if t542 > t541 then (spec_MedianOf.j0 k a0 t543 t542 a2_0 a2_1 a2_2 a1_0 a1_1 a1_2) else (spec_MedianOf.j0 k a0 t543 t541 a2_0 a2_1 a2_2 a1_0 a1_1 a1_2))))) else (some (0, 0, 0, t540)))
def spec_MedianOf.T4 : Bool × List (List Nat × List Nat) := (true, [([], []), ([], []), ([], []), ([0, 1, 2], [0, 1, 2]), ([], []), ([], []), ([], []), ([4, 5, 6, 3], [4, 5, 6]), ([], []), ([], []), ([], []), ([8, 9, 10, 7], [8, 9, 10]), ([3, 11, 0, 1, 2, 3], [3]), ([7, 12, 0, 1, 2, 3, 4, 5, 6, 7, 12], [7]), ([11, 13, 0, 1, 2, 3, 4, 5, 6, 7, 8, 9, 10, 11, 12, 13], [11])])
def spec_MedianOf.B4 : List Nat := [0, 0, 0, 7, 0, 0, 0, 127, 0, 0, 0, 2047, 4095, 8191, 16383]
theorem spec_MedianOf.tab4 : rtab .any (opsOf Try.f53 4) = spec_MedianOf.T4 := by kernel_rfl
theorem spec_MedianOf.bits4 : waitsOk spec_MedianOf.T4.2 spec_MedianOf.B4 = true := by kernel_rfl
set_option maxHeartbeats 8000000 in
set_option maxRecDepth 100000 in
theorem spec_MedianOf.calls (k : Nat) (a0 : Int) (a1_0 : Int) (a1_1 : Int) (a1_2 : Int) (a2_0 : Int) (a2_1 : Int) (a2_2 : Int) (a3_0 : Int) (a3_1 : Int) (a3_2 : Int) (r1 : Int) (r2 : Int) (r3 : Int) (r4 : Int) (w : World) (h : spec_MedianOf.f k a0 a1_0 a1_1 a1_2 a2_0 a2_1 a2_2 a3_0 a3_1 a3_2 = some (r1, r2, r3, r4)) :
  Calls Try.prog 53 #[.int .i64 a0, .agg #[.int .i64 a1_0, .int .i64 a1_1, .int .i64 a1_2], .agg #[.int .i64 a2_0, .int .i64 a2_1, .int .i64 a2_2], .agg #[.int .i64 a3_0, .int .i64 a3_1, .int .i64 a3_2]] w fun e w' => e = .returned (.tuple #[.agg #[.int .i64 r1, .int .i64 r2, .int .i64 r3], .int .i64 r4]) ∧ Below w.heap.size w w' := by
 have hu27 := Try.underlying27
 have HB := Aside0.mk (Below.refl w.heap.size w)
 unfold spec_MedianOf.f at h
 have H := h
 clear h
 obtain ⟨y537, hy537⟩ : ∃ y_ : List (S27), y_ = (([(⟨a1_0, a1_1, a1_2⟩ : S27), (⟨a2_0, a2_1, a2_2⟩ : S27), (⟨a3_0, a3_1, a3_2⟩ : S27)] : List (S27))) := ⟨_, rfl⟩
 replace H : ((spec_l01Code.f k a0 y537).bind fun t540 => (if t540 = 0 then ((spec_l02Join.f k a0 a1_0 a1_1 a1_2 a2_0 a2_1 a2_2).bind fun t541 => ((spec_l02Join.f k a0 a1_0 a1_1 a1_2 a3_0 a3_1 a3_2).bind fun t542 => ((spec_l02Join.f k a0 a2_0 a2_1 a2_2 a3_0 a3_1 a3_2).bind fun t543 => (if t542 > t541 then (spec_MedianOf.j0 k a0 t543 t542 a2_0 a2_1 a2_2 a1_0 a1_1 a1_2) else (spec_MedianOf.j0 k a0 t543 t541 a2_0 a2_1 a2_2 a1_0 a1_1 a1_2))))) else (some (0, 0, 0, t540)))) = some (r1, r2, r3, r4) := by first | exact hy537 ▸ H | exact H
 have Ny537 := Aside0.mk hy537
 clear hy537
 replace H := zi H
 obtain ⟨t540, A5, H⟩ := H
 try dsimp only at H
 replace H := ii H
 rcases H with ⟨c6, H⟩ | ⟨c6, H⟩
 ·obtain ⟨c6b0, c6b1⟩ := zz c6
  clear c6
  replace H := zi H
  obtain ⟨t541, A7, H⟩ := H
  try dsimp only at H
  replace H := zi H
  obtain ⟨t542, A8, H⟩ := H
  try dsimp only at H
  replace H := zi H
  obtain ⟨t543, A9, H⟩ := H
  try dsimp only at H
  have HC10 := Aside0.mk H
  clear H
  go_enter Try.func53, Try.ntmps53
  try go_wp2_with (first | ((with_reducible refine zg 5 rfl ?_); refine z3 5 27 a1_0 a1_1 a1_2 ?_; intro gb533 hg w11 BK533 hb; have GW533 := sg hg; replace HB := bs hb; clear hb hg) | ((with_reducible refine zg 6 rfl ?_); refine z3 6 27 a2_0 a2_1 a2_2 ?_; intro gb534 hg w12 BK534 hb; have GW534 := sg hg; have NB533_534 := nl hg BK533; replace BK533 := bb BK533 hb; replace HB := bs hb; clear hb hg) | ((with_reducible refine zg 7 rfl ?_); refine z3 7 27 a3_0 a3_1 a3_2 ?_; intro gb535 hg w13 BK535 hb; have GW535 := sg hg; have NB533_535 := nl hg BK533; have NB534_535 := nl hg BK534; replace BK533 := bb BK533 hb; replace BK534 := bb BK534 hb; replace HB := bs hb; clear hb hg) | ((with_reducible refine zg 8 rfl ?_); refine z3 8 27 0 0 0 ?_; intro gb536 hg w14 BK536 hb; have GW536 := sg hg; have NB533_536 := nl hg BK533; have NB534_536 := nl hg BK534; have NB535_536 := nl hg BK535; replace BK533 := bb BK533 hb; replace BK534 := bb BK534 hb; replace BK535 := bb BK535 hb; replace HB := bs hb; clear hb hg; obtain ⟨hnb15, hnc15⟩ := zn NB533_534; obtain ⟨hnb16, hnc16⟩ := zn NB533_535; obtain ⟨hnb17, hnc17⟩ := zn NB533_536; obtain ⟨hcz18_0, hcz18_1, hcz18_2, hfz18_0, hfz18_1, hfz18_2⟩ := cq3 BK533; obtain ⟨hnb19, hnc19⟩ := zn NB534_535; obtain ⟨hnb20, hnc20⟩ := zn NB534_536; obtain ⟨hcz21_0, hcz21_1, hcz21_2, hfz21_0, hfz21_1, hfz21_2⟩ := cq3 BK534; obtain ⟨hnb22, hnc22⟩ := zn NB535_536; obtain ⟨hcz23_0, hcz23_1, hcz23_2, hfz23_0, hfz23_1, hfz23_2⟩ := cq3 BK535) | ((with_reducible refine zg 22 rfl ?_); refine Kd.R_lit k27 _ 27 ?hg (N := 22) ?hd (xs := ([(⟨a1_0, a1_1, a1_2⟩ : S27), (⟨a2_0, a2_1, a2_2⟩ : S27), (⟨a3_0, a3_1, a3_2⟩ : S27)] : List (S27))) (inner := [.int .i64 a1_0, .int .i64 a1_1, .int .i64 a1_2, .int .i64 a2_0, .int .i64 a2_1, .int .i64 a2_2, .int .i64 a3_0, .int .i64 a3_1, .int .i64 a3_2]) (ok := fun _ => True) (okp := fun _ => True) ?hr ?hp (fun _ hk => hk) trivial (Below.refl _ _) (Nat.le_refl _) (by simp) ?_; (case hd => rfl); (case hg => rfl); (case hr => first | (go_simp; done) | (go_simp; rfl)); (case hp => exact (Reps.c3 (show Kd.M k27 _ _ _ (⟨a1_0, a1_1, a1_2⟩ : S27) [.int .i64 a1_0, .int .i64 a1_1, .int .i64 a1_2] from (k27_mkM _ _ _ (⟨a1_0, a1_1, a1_2⟩ : S27) )) (Reps.c3 (show Kd.M k27 _ _ _ (⟨a2_0, a2_1, a2_2⟩ : S27) [.int .i64 a2_0, .int .i64 a2_1, .int .i64 a2_2] from (k27_mkM _ _ _ (⟨a2_0, a2_1, a2_2⟩ : S27) )) (Reps.c3 (show Kd.M k27 _ _ _ (⟨a3_0, a3_1, a3_2⟩ : S27) [.int .i64 a3_0, .int .i64 a3_1, .int .i64 a3_2] from (k27_mkM _ _ _ (⟨a3_0, a3_1, a3_2⟩ : S27) )) (Reps.none _ _))))); intro v538 w24 ho25 hb hg_ hnew_; clear hg_ hnew_; (first | rw [← Ny537.out] at ho25 | (simp only [Int.reduceToNat] at ho25; rw [← Ny537.out] at ho25)); have HO539 := Aside0.mk (Kd.R_lower (Kd.R_newB (Kd.R_newB (Kd.R_newB (Kd.R_newB ho25 (g := gb533) (o := .cells #[.int .i64 a1_0, .int .i64 a1_1, .int .i64 a1_2] 27 (0, 0)) (be BK533)) (g := gb534) (o := .cells #[.int .i64 a2_0, .int .i64 a2_1, .int .i64 a2_2] 27 (0, 0)) (be BK534)) (g := gb535) (o := .cells #[.int .i64 a3_0, .int .i64 a3_1, .int .i64 a3_2] 27 (0, 0)) (be BK535)) (g := gb536) (o := .cells #[.int .i64 0, .int .i64 0, .int .i64 0] 27 (0, 0)) (be BK536)) (below_size (bl))); replace BK533 := bb BK533 hb; replace BK534 := bb BK534 hb; replace BK535 := bb BK535 hb; replace BK536 := bb BK536 hb; replace HB := bs hb; clear hb ho25; obtain ⟨Ao26, co26, eo26⟩ := Kd.R_slice HO539.out; subst eo26) | ((with_reducible refine zf 81 rfl ?_); refine g1 (some 23) Try.func81 #[.int .i64 a0, .slice Ao26 y537.length co26] ?_; (with_reducible refine (spec_l01Code.calls k a0 _ _ y537 t540 _ ?side1 ?side2 A5.out).mono ?_); (case side1 => repeat (first | exact (Kd.R_reads' HO539.out).2.2 | (with_reducible refine Kd.C_alloc ?_ _) | (with_reducible refine Kd.C_drewN ?_ _) | (with_reducible refine Kd.C_drew ?_))); (case side2 => exact (Kd.R_reads' HO539.out).2.1); rintro e w27 ⟨rfl, hb⟩; refine ⟨_, rfl, ?_⟩; replace HO539 := Aside0.mk (Kd.R_below (by (with_reducible repeat (first | apply Kd.R_alloc | apply Kd.R_drewN | apply Kd.R_drew)); exact HO539.out) hb); replace BK533 := bb BK533 hb; replace BK534 := bb BK534 hb; replace BK535 := bb BK535 hb; replace BK536 := bb BK536 hb; replace HB := bs hb; (try clear hb)))
  replace HO539 := Aside0.mk (Kd.R_drew HO539.out)
  replace BK533 := Aside0.mk (blk_drew BK533.out)
  replace BK534 := Aside0.mk (blk_drew BK534.out)
  replace BK535 := Aside0.mk (blk_drew BK535.out)
  replace BK536 := Aside0.mk (blk_drew BK536.out)
  replace HB := Aside0.mk (below_drew1 HB.out)
  refine sw 15 (fun w' => w'.cell? ⟨gb533, 0, none⟩ = some (.int .i64 a1_0) ∧ w'.cell? ⟨gb533, 1, none⟩ = some (.int .i64 a1_1) ∧ w'.cell? ⟨gb533, 2, none⟩ = some (.int .i64 a1_2) ∧ w'.cell? ⟨gb534, 0, none⟩ = some (.int .i64 a2_0) ∧ w'.cell? ⟨gb534, 1, none⟩ = some (.int .i64 a2_1) ∧ w'.cell? ⟨gb534, 2, none⟩ = some (.int .i64 a2_2) ∧ w'.cell? ⟨gb535, 0, none⟩ = some (.int .i64 a3_0) ∧ w'.cell? ⟨gb535, 1, none⟩ = some (.int .i64 a3_1) ∧ w'.cell? ⟨gb535, 2, none⟩ = some (.int .i64 a3_2)) spec_MedianOf.tab4 spec_MedianOf.bits4 (e3r BK533 (e3r BK534 (e3 BK535))) (fun hHeld HT_ HW_ => ?_)
  generalize w27.drew = w28 at HO539 BK533 BK534 BK535 BK536 HB hHeld ⊢
  refine pu 0 (some 28) (tA 15 1) HT_ ?_
  refine pu 4 (some 32) (tA 15 17) HT_ ?_
  refine pu 8 (some 36) (tA 15 273) HT_ ?_
  refine tk9 1 (some 29) (tA 15 275) HT_ HW_ hHeld ?_
  refine tk9 2 (some 30) (tA 15 279) HT_ HW_ hHeld ?_
  refine tk9 5 (some 33) (tA 15 311) HT_ HW_ hHeld ?_
  refine tk9 6 (some 34) (tA 15 375) HT_ HW_ hHeld ?_
  refine tk9 9 (some 37) (tA 15 887) HT_ HW_ hHeld ?_
  refine tk9 10 (some 38) (tA 15 1911) HT_ HW_ hHeld ?_
  refine o1 3 (some 31) (tA 15 1919) HT_ (fun K hK => ?_)
  refine gs Try.func114 #[.int .i64 a0, .agg #[.int .i64 a1_0, .int .i64 a1_1, .int .i64 a1_2], .agg #[.int .i64 a2_0, .int .i64 a2_1, .int .i64 a2_2]] ?_
  with_reducible refine (spec_l02Join.calls k a0 a1_0 a1_1 a1_2 a2_0 a2_1 a2_2 t541 _ A7.out).mono ?_
  rintro e w29 ⟨rfl, hb⟩
  refine ⟨_, rfl, ?_⟩
  replace HO539 := Aside0.mk (Kd.R_below (by (with_reducible repeat (first | apply Kd.R_alloc | apply Kd.R_drewN | apply Kd.R_drew)); exact HO539.out) hb)
  replace BK533 := bb BK533 hb
  replace BK534 := bb BK534 hb
  replace BK535 := bb BK535 hb
  replace BK536 := bb BK536 hb
  replace HB := bs hb
  (try clear hb)
  (try clear hb2)
  (try clear hk)
  (try clear hi)
  refine hK.out _ _ (e3r BK533 (e3r BK534 (e3 BK535))) (fun hHeld => ?_)
  clear hK K
  refine nm (some 31) ?_
  refine o1 7 (some 35) (tA 15 2047) HT_ (fun K hK => ?_)
  refine gs Try.func114 #[.int .i64 a0, .agg #[.int .i64 a1_0, .int .i64 a1_1, .int .i64 a1_2], .agg #[.int .i64 a3_0, .int .i64 a3_1, .int .i64 a3_2]] ?_
  with_reducible refine (spec_l02Join.calls k a0 a1_0 a1_1 a1_2 a3_0 a3_1 a3_2 t542 _ A8.out).mono ?_
  rintro e w30 ⟨rfl, hb⟩
  refine ⟨_, rfl, ?_⟩
  replace HO539 := Aside0.mk (Kd.R_below (by (with_reducible repeat (first | apply Kd.R_alloc | apply Kd.R_drewN | apply Kd.R_drew)); exact HO539.out) hb)
  replace BK533 := bb BK533 hb
  replace BK534 := bb BK534 hb
  replace BK535 := bb BK535 hb
  replace BK536 := bb BK536 hb
  replace HB := bs hb
  (try clear hb)
  (try clear hb2)
  (try clear hk)
  (try clear hi)
  refine hK.out _ _ (e3r BK533 (e3r BK534 (e3 BK535))) (fun hHeld => ?_)
  clear hK K
  refine nm (some 35) ?_
  refine o1 11 (some 39) (tA 15 4095) HT_ (fun K hK => ?_)
  refine gs Try.func114 #[.int .i64 a0, .agg #[.int .i64 a2_0, .int .i64 a2_1, .int .i64 a2_2], .agg #[.int .i64 a3_0, .int .i64 a3_1, .int .i64 a3_2]] ?_
  with_reducible refine (spec_l02Join.calls k a0 a2_0 a2_1 a2_2 a3_0 a3_1 a3_2 t543 _ A9.out).mono ?_
  rintro e w31 ⟨rfl, hb⟩
  refine ⟨_, rfl, ?_⟩
  replace HO539 := Aside0.mk (Kd.R_below (by (with_reducible repeat (first | apply Kd.R_alloc | apply Kd.R_drewN | apply Kd.R_drew)); exact HO539.out) hb)
  replace BK533 := bb BK533 hb
  replace BK534 := bb BK534 hb
  replace BK535 := bb BK535 hb
  replace BK536 := bb BK536 hb
  replace HB := bs hb
  (try clear hb)
  (try clear hb2)
  (try clear hk)
  (try clear hi)
  refine hK.out _ _ (e3r BK533 (e3r BK534 (e3 BK535))) (fun hHeld => ?_)
  clear hK K
  refine nm (some 39) ?_
  refine pu 12 (some 11) (tA 15 8191) HT_ ?_
  refine pu 13 (some 12) (tA 15 16383) HT_ ?_
  refine pu 14 (some 13) (tA 15 32767) HT_ ?_
  refine done_ (done_of HT_.out (by kernel_rfl)) ?_
  obtain ⟨hcz32_0, hcz32_1, hcz32_2, hfz32_0, hfz32_1, hfz32_2⟩ := cq3 BK533
  go_upto_if 44 with (first | ((with_reducible refine zg 14 rfl ?_); refine z3 14 27 0 0 0 ?_; intro gb544 hg w33 BK544 hb; have GW544 := sg hg; have NB533_544 := nl hg BK533; have NB534_544 := nl hg BK534; have NB535_544 := nl hg BK535; have NB536_544 := nl hg BK536; replace HO539 := Aside0.mk (Kd.R_below (Kd.R_elderB (by (with_reducible repeat (first | apply Kd.R_alloc | apply Kd.R_drewN | apply Kd.R_drew)); exact HO539.out) gb544 (Nat.le_of_eq hg.symm)) hb); replace BK533 := bb BK533 hb; replace BK534 := bb BK534 hb; replace BK535 := bb BK535 hb; replace BK536 := bb BK536 hb; replace HB := bs hb; clear hb hg; obtain ⟨hnb34, hnc34⟩ := zm NB533_544; obtain ⟨hnb35, hnc35⟩ := zm NB534_544; obtain ⟨hnb36, hnc36⟩ := zm NB535_544; obtain ⟨hnb37, hnc37⟩ := zm NB536_544; obtain ⟨hcz38_0, hcz38_1, hcz38_2, hfz38_0, hfz38_1, hfz38_2⟩ := cq3 BK544))
  (try simp only [Act.put, zq, zr, zt])
  go_cut [15] (fun v15 wc => ∃ (kq : Nat) (x15_9 : Int), v15 = .int .i64 x15_9 ∧ Aside0 (spec_MedianOf.j0 kq a0 t543 x15_9 a2_0 a2_1 a2_2 a1_0 a1_1 a1_2 = some (r1, r2, r3, r4)) ∧ Aside0 (kq ≤ k) ∧ Aside0 (wc.heap[gb533]? = some (.cells #[.int .i64 a1_0, .int .i64 a1_1, .int .i64 a1_2] 27 (0, 0))) ∧ Aside0 (wc.heap[gb534]? = some (.cells #[.int .i64 a2_0, .int .i64 a2_1, .int .i64 a2_2] 27 (0, 0))) ∧ Aside0 (wc.heap[gb535]? = some (.cells #[.int .i64 a3_0, .int .i64 a3_1, .int .i64 a3_2] 27 (0, 0))) ∧ Aside0 (wc.heap[gb536]? = some (.cells #[.int .i64 0, .int .i64 0, .int .i64 0] 27 (0, 0))) ∧ Aside0 (wc.heap[gb544]? = some (.cells #[.int .i64 a1_0, .int .i64 a1_1, .int .i64 a1_2] 27 (0, 0))) ∧ Aside0 (Below w.heap.size w wc))
  case first =>
   have H := HC10.out
   clear HC10
   replace H := ii H
   rcases H with ⟨c39, H⟩ | ⟨c39, H⟩
   ·have c39b0 := decide_eq_true c39
    clear c39
    (first | rw [c39b0] | (simp only [i64_w, i32_w]; rw [c39b0]) | skip)
    have H' := Aside0.mk H
    clear H
    go_wp2
    go_meet
    case rel => exact ⟨_, (t542), (by first | rfl | (simp; done) | (simp [*]; done)), H', ⟨by first | omega | exact Nat.le_refl _⟩, ⟨bp⟩, ⟨bp⟩, ⟨bp⟩, ⟨bp⟩, ⟨bp⟩, ⟨bl⟩⟩
   ·have c39b0 := decide_eq_false c39
    clear c39
    (first | rw [c39b0] | (simp only [i64_w, i32_w]; rw [c39b0]) | skip)
    have H' := Aside0.mk H
    clear H
    go_wp2
    go_meet
    case rel => exact ⟨_, (t541), (by first | rfl | (simp; done) | (simp [*]; done)), H', ⟨by first | omega | exact Nat.le_refl _⟩, ⟨bp⟩, ⟨bp⟩, ⟨bp⟩, ⟨bp⟩, ⟨bp⟩, ⟨bl⟩⟩
  case rest =>
   clear HC10
   obtain ⟨kq, x15_9, rfl, HA, HJ9, BK533, BK534, BK535, BK536, BK544, HB⟩ := hcut
   cases kq with
   | zero => exact absurd HA.out (by simp [spec_MedianOf.j0])
   | succ kj9 =>
    have H := HA.out
    clear HA
    simp only [spec_MedianOf.j0] at H
    replace H := ii H
    rcases H with ⟨c40, H⟩ | ⟨c40, H⟩
    ·have c40b0 := decide_eq_true c40
     clear c40
     replace H := zi H
     obtain ⟨⟨t545, t546, t547, t548⟩, A41, H⟩ := H
     try dsimp only at H
     by_cases c42 : t548 = true
     ·subst c42
      rw [if_pos rfl] at H
      simp only [Option.some.injEq, Prod.mk.injEq] at H
      obtain ⟨rfl, rfl, rfl, rfl⟩ := H
      obtain ⟨hnb43, hnc43⟩ := zm NB533_534
      obtain ⟨hnb44, hnc44⟩ := zn NB534_535
      obtain ⟨hnb45, hnc45⟩ := zn NB534_536
      obtain ⟨hnb46, hnc46⟩ := zn NB534_544
      obtain ⟨hcz47_0, hcz47_1, hcz47_2, hfz47_0, hfz47_1, hfz47_2⟩ := cq3 BK534
      obtain ⟨hnb48, hnc48⟩ := zm NB533_544
      obtain ⟨hnb49, hnc49⟩ := zm NB535_544
      obtain ⟨hnb50, hnc50⟩ := zm NB536_544
      obtain ⟨hcz51_0, hcz51_1, hcz51_2, hfz51_0, hfz51_1, hfz51_2⟩ := cq3 BK544
      go_wp2_with (first | ((with_reducible refine zf 113 rfl ?_); refine g1 (some 55) Try.func113 #[.int .i64 a0, .agg #[.int .i64 a2_0, .int .i64 a2_1, .int .i64 a2_2], .int .i64 t543] ?_; (with_reducible refine (spec_l02Up.calls kj9 a0 a2_0 a2_1 a2_2 t543 t545 t546 t547 true _ A41.out).mono ?_); rintro e w52 ⟨rfl, hb⟩; refine ⟨_, rfl, ?_⟩; replace BK533 := Aside0.mk (blk_below (g := gb533) (o := .cells #[.int .i64 a1_0, .int .i64 a1_1, .int .i64 a1_2] 27 (0, 0)) (bp) hb); replace BK534 := Aside0.mk (blk_below (g := gb534) (o := .cells #[.int .i64 a2_0, .int .i64 a2_1, .int .i64 a2_2] 27 (0, 0)) (bp) hb); replace BK535 := Aside0.mk (blk_below (g := gb535) (o := .cells #[.int .i64 a3_0, .int .i64 a3_1, .int .i64 a3_2] 27 (0, 0)) (bp) hb); replace BK536 := Aside0.mk (blk_below (g := gb536) (o := .cells #[.int .i64 0, .int .i64 0, .int .i64 0] 27 (0, 0)) (bp) hb); replace BK544 := Aside0.mk (blk_below (g := gb544) (o := .cells #[.int .i64 a2_0, .int .i64 a2_1, .int .i64 a2_2] 27 (0, 0)) (bp) hb); replace HB := bs hb; (try clear hb)) | ((with_reducible refine zg 16 rfl ?_); refine z3 16 27 0 0 0 ?_; intro gb549 hg w53 BK549 hb; have GW549 := sg hg; have NB533_549 := nl hg BK533; have NB534_549 := nl hg BK534; have NB535_549 := nl hg BK535; have NB536_549 := nl hg BK536; have NB544_549 := nl hg BK544; replace BK533 := bb BK533 hb; replace BK534 := bb BK534 hb; replace BK535 := bb BK535 hb; replace BK536 := bb BK536 hb; replace BK544 := bb BK544 hb; replace HB := bs hb; clear hb hg; obtain ⟨hnb54, hnc54⟩ := zm NB533_549; obtain ⟨hnb55, hnc55⟩ := zm NB534_549; obtain ⟨hnb56, hnc56⟩ := zm NB535_549; obtain ⟨hnb57, hnc57⟩ := zm NB536_549; obtain ⟨hnb58, hnc58⟩ := zm NB544_549; obtain ⟨hcz59_0, hcz59_1, hcz59_2, hfz59_0, hfz59_1, hfz59_2⟩ := cq3 BK549; obtain ⟨hnb60, hnc60⟩ := zm NB533_536; obtain ⟨hnb61, hnc61⟩ := zm NB535_536; obtain ⟨hcz62_0, hcz62_1, hcz62_2, hfz62_0, hfz62_1, hfz62_2⟩ := cq3 BK536))
      refine bodyPost_ret (results_ct rfl _ _ gb536 27 #[.int .i64 t545, .int .i64 t546, .int .i64 t547] (0, 0) _ rfl (bp) Try.underlying27 rfl (by kernel_rfl)) rfl ?_
      exact ⟨er, bl⟩
     ·replace c42 := Bool.eq_false_iff.mpr c42
      subst c42
      have H1 : (some (0, 0, 0, 3)) = some (r1, r2, r3, r4) := by rw [if_neg (show ¬ (false = true) by decide)] at H; exact H
      clear H
      have H := H1
      clear H1
      simp only [Option.some.injEq, Prod.mk.injEq] at H
      obtain ⟨rfl, rfl, rfl, rfl⟩ := H
      obtain ⟨hnb63, hnc63⟩ := zm NB533_534
      obtain ⟨hnb64, hnc64⟩ := zn NB534_535
      obtain ⟨hnb65, hnc65⟩ := zn NB534_536
      obtain ⟨hnb66, hnc66⟩ := zn NB534_544
      obtain ⟨hcz67_0, hcz67_1, hcz67_2, hfz67_0, hfz67_1, hfz67_2⟩ := cq3 BK534
      obtain ⟨hnb68, hnc68⟩ := zm NB533_544
      obtain ⟨hnb69, hnc69⟩ := zm NB535_544
      obtain ⟨hnb70, hnc70⟩ := zm NB536_544
      obtain ⟨hcz71_0, hcz71_1, hcz71_2, hfz71_0, hfz71_1, hfz71_2⟩ := cq3 BK544
      go_wp2_with (first | ((with_reducible refine zf 113 rfl ?_); refine g1 (some 55) Try.func113 #[.int .i64 a0, .agg #[.int .i64 a2_0, .int .i64 a2_1, .int .i64 a2_2], .int .i64 t543] ?_; (with_reducible refine (spec_l02Up.calls kj9 a0 a2_0 a2_1 a2_2 t543 t545 t546 t547 false _ A41.out).mono ?_); rintro e w72 ⟨rfl, hb⟩; refine ⟨_, rfl, ?_⟩; replace BK533 := Aside0.mk (blk_below (g := gb533) (o := .cells #[.int .i64 a1_0, .int .i64 a1_1, .int .i64 a1_2] 27 (0, 0)) (bp) hb); replace BK534 := Aside0.mk (blk_below (g := gb534) (o := .cells #[.int .i64 a2_0, .int .i64 a2_1, .int .i64 a2_2] 27 (0, 0)) (bp) hb); replace BK535 := Aside0.mk (blk_below (g := gb535) (o := .cells #[.int .i64 a3_0, .int .i64 a3_1, .int .i64 a3_2] 27 (0, 0)) (bp) hb); replace BK536 := Aside0.mk (blk_below (g := gb536) (o := .cells #[.int .i64 0, .int .i64 0, .int .i64 0] 27 (0, 0)) (bp) hb); replace BK544 := Aside0.mk (blk_below (g := gb544) (o := .cells #[.int .i64 a2_0, .int .i64 a2_1, .int .i64 a2_2] 27 (0, 0)) (bp) hb); replace HB := bs hb; (try clear hb)) | ((with_reducible refine zg 16 rfl ?_); refine z3 16 27 0 0 0 ?_; intro gb549 hg w73 BK549 hb; have GW549 := sg hg; have NB533_549 := nl hg BK533; have NB534_549 := nl hg BK534; have NB535_549 := nl hg BK535; have NB536_549 := nl hg BK536; have NB544_549 := nl hg BK544; replace BK533 := bb BK533 hb; replace BK534 := bb BK534 hb; replace BK535 := bb BK535 hb; replace BK536 := bb BK536 hb; replace BK544 := bb BK544 hb; replace HB := bs hb; clear hb hg; obtain ⟨hnb74, hnc74⟩ := zm NB533_549; obtain ⟨hnb75, hnc75⟩ := zm NB534_549; obtain ⟨hnb76, hnc76⟩ := zm NB535_549; obtain ⟨hnb77, hnc77⟩ := zm NB536_549; obtain ⟨hnb78, hnc78⟩ := zm NB544_549; obtain ⟨hcz79_0, hcz79_1, hcz79_2, hfz79_0, hfz79_1, hfz79_2⟩ := cq3 BK549; obtain ⟨hnb80, hnc80⟩ := zm NB533_536; obtain ⟨hnb81, hnc81⟩ := zm NB535_536; obtain ⟨hcz82_0, hcz82_1, hcz82_2, hfz82_0, hfz82_1, hfz82_2⟩ := cq3 BK536))
      refine bodyPost_ret (results_ct rfl _ _ gb536 27 #[.int .i64 0, .int .i64 0, .int .i64 0] (0, 0) _ rfl (bp) Try.underlying27 rfl (by kernel_rfl)) rfl ?_
      exact ⟨er, bl⟩
    ·have c40b0 := decide_eq_false c40
     clear c40
     replace H := zi H
     obtain ⟨⟨t550, t551, t552, t553⟩, A83, H⟩ := H
     try dsimp only at H
     by_cases c84 : t553 = true
     ·subst c84
      rw [if_pos rfl] at H
      simp only [Option.some.injEq, Prod.mk.injEq] at H
      obtain ⟨rfl, rfl, rfl, rfl⟩ := H
      obtain ⟨hnb85, hnc85⟩ := zm NB533_544
      obtain ⟨hnb86, hnc86⟩ := zm NB534_544
      obtain ⟨hnb87, hnc87⟩ := zm NB535_544
      obtain ⟨hnb88, hnc88⟩ := zm NB536_544
      obtain ⟨hcz89_0, hcz89_1, hcz89_2, hfz89_0, hfz89_1, hfz89_2⟩ := cq3 BK544
      go_wp2_with (first | ((with_reducible refine zf 113 rfl ?_); refine g1 (some 55) Try.func113 #[.int .i64 a0, .agg #[.int .i64 a1_0, .int .i64 a1_1, .int .i64 a1_2], .int .i64 x15_9] ?_; (with_reducible refine (spec_l02Up.calls kj9 a0 a1_0 a1_1 a1_2 x15_9 t550 t551 t552 true _ A83.out).mono ?_); rintro e w90 ⟨rfl, hb⟩; refine ⟨_, rfl, ?_⟩; replace BK533 := bb BK533 hb; replace BK534 := bb BK534 hb; replace BK535 := bb BK535 hb; replace BK536 := bb BK536 hb; replace BK544 := bb BK544 hb; replace HB := bs hb; (try clear hb)) | ((with_reducible refine zg 16 rfl ?_); refine z3 16 27 0 0 0 ?_; intro gb554 hg w91 BK554 hb; have GW554 := sg hg; have NB533_554 := nl hg BK533; have NB534_554 := nl hg BK534; have NB535_554 := nl hg BK535; have NB536_554 := nl hg BK536; have NB544_554 := nl hg BK544; replace BK533 := bb BK533 hb; replace BK534 := bb BK534 hb; replace BK535 := bb BK535 hb; replace BK536 := bb BK536 hb; replace BK544 := bb BK544 hb; replace HB := bs hb; clear hb hg; obtain ⟨hnb92, hnc92⟩ := zm NB533_554; obtain ⟨hnb93, hnc93⟩ := zm NB534_554; obtain ⟨hnb94, hnc94⟩ := zm NB535_554; obtain ⟨hnb95, hnc95⟩ := zm NB536_554; obtain ⟨hnb96, hnc96⟩ := zm NB544_554; obtain ⟨hcz97_0, hcz97_1, hcz97_2, hfz97_0, hfz97_1, hfz97_2⟩ := cq3 BK554; obtain ⟨hnb98, hnc98⟩ := zm NB533_536; obtain ⟨hnb99, hnc99⟩ := zm NB534_536; obtain ⟨hnb100, hnc100⟩ := zm NB535_536; obtain ⟨hcz101_0, hcz101_1, hcz101_2, hfz101_0, hfz101_1, hfz101_2⟩ := cq3 BK536))
      refine bodyPost_ret (results_ct rfl _ _ gb536 27 #[.int .i64 t550, .int .i64 t551, .int .i64 t552] (0, 0) _ rfl (bp) Try.underlying27 rfl (by kernel_rfl)) rfl ?_
      exact ⟨er, bl⟩
     ·replace c84 := Bool.eq_false_iff.mpr c84
      subst c84
      have H1 : (some (0, 0, 0, 3)) = some (r1, r2, r3, r4) := by rw [if_neg (show ¬ (false = true) by decide)] at H; exact H
      clear H
      have H := H1
      clear H1
      simp only [Option.some.injEq, Prod.mk.injEq] at H
      obtain ⟨rfl, rfl, rfl, rfl⟩ := H
      obtain ⟨hnb102, hnc102⟩ := zm NB533_544
      obtain ⟨hnb103, hnc103⟩ := zm NB534_544
      obtain ⟨hnb104, hnc104⟩ := zm NB535_544
      obtain ⟨hnb105, hnc105⟩ := zm NB536_544
      obtain ⟨hcz106_0, hcz106_1, hcz106_2, hfz106_0, hfz106_1, hfz106_2⟩ := cq3 BK544
      go_wp2_with (first | ((with_reducible refine zf 113 rfl ?_); refine g1 (some 55) Try.func113 #[.int .i64 a0, .agg #[.int .i64 a1_0, .int .i64 a1_1, .int .i64 a1_2], .int .i64 x15_9] ?_; (with_reducible refine (spec_l02Up.calls kj9 a0 a1_0 a1_1 a1_2 x15_9 t550 t551 t552 false _ A83.out).mono ?_); rintro e w107 ⟨rfl, hb⟩; refine ⟨_, rfl, ?_⟩; replace BK533 := bb BK533 hb; replace BK534 := bb BK534 hb; replace BK535 := bb BK535 hb; replace BK536 := bb BK536 hb; replace BK544 := bb BK544 hb; replace HB := bs hb; (try clear hb)) | ((with_reducible refine zg 16 rfl ?_); refine z3 16 27 0 0 0 ?_; intro gb554 hg w108 BK554 hb; have GW554 := sg hg; have NB533_554 := nl hg BK533; have NB534_554 := nl hg BK534; have NB535_554 := nl hg BK535; have NB536_554 := nl hg BK536; have NB544_554 := nl hg BK544; replace BK533 := bb BK533 hb; replace BK534 := bb BK534 hb; replace BK535 := bb BK535 hb; replace BK536 := bb BK536 hb; replace BK544 := bb BK544 hb; replace HB := bs hb; clear hb hg; obtain ⟨hnb109, hnc109⟩ := zm NB533_554; obtain ⟨hnb110, hnc110⟩ := zm NB534_554; obtain ⟨hnb111, hnc111⟩ := zm NB535_554; obtain ⟨hnb112, hnc112⟩ := zm NB536_554; obtain ⟨hnb113, hnc113⟩ := zm NB544_554; obtain ⟨hcz114_0, hcz114_1, hcz114_2, hfz114_0, hfz114_1, hfz114_2⟩ := cq3 BK554; obtain ⟨hnb115, hnc115⟩ := zm NB533_536; obtain ⟨hnb116, hnc116⟩ := zm NB534_536; obtain ⟨hnb117, hnc117⟩ := zm NB535_536; obtain ⟨hcz118_0, hcz118_1, hcz118_2, hfz118_0, hfz118_1, hfz118_2⟩ := cq3 BK536))
      refine bodyPost_ret (results_ct rfl _ _ gb536 27 #[.int .i64 0, .int .i64 0, .int .i64 0] (0, 0) _ rfl (bp) Try.underlying27 rfl (by kernel_rfl)) rfl ?_
      exact ⟨er, bl⟩
 ·obtain ⟨c6b0, c6b1⟩ := zy c6
  simp only [Option.some.injEq, Prod.mk.injEq] at H
  obtain ⟨rfl, rfl, rfl, rfl⟩ := H
  go_enter Try.func53, Try.ntmps53
  go_wp2_with (first | ((with_reducible refine zg 5 rfl ?_); refine z3 5 27 a1_0 a1_1 a1_2 ?_; intro gb533 hg w119 BK533 hb; have GW533 := sg hg; replace HB := bs hb; clear hb hg) | ((with_reducible refine zg 6 rfl ?_); refine z3 6 27 a2_0 a2_1 a2_2 ?_; intro gb534 hg w120 BK534 hb; have GW534 := sg hg; have NB533_534 := nl hg BK533; replace BK533 := bb BK533 hb; replace HB := bs hb; clear hb hg) | ((with_reducible refine zg 7 rfl ?_); refine z3 7 27 a3_0 a3_1 a3_2 ?_; intro gb535 hg w121 BK535 hb; have GW535 := sg hg; have NB533_535 := nl hg BK533; have NB534_535 := nl hg BK534; replace BK533 := bb BK533 hb; replace BK534 := bb BK534 hb; replace HB := bs hb; clear hb hg) | ((with_reducible refine zg 8 rfl ?_); refine z3 8 27 0 0 0 ?_; intro gb536 hg w122 BK536 hb; have GW536 := sg hg; have NB533_536 := nl hg BK533; have NB534_536 := nl hg BK534; have NB535_536 := nl hg BK535; replace BK533 := bb BK533 hb; replace BK534 := bb BK534 hb; replace BK535 := bb BK535 hb; replace HB := bs hb; clear hb hg; obtain ⟨hnb123, hnc123⟩ := zn NB533_534; obtain ⟨hnb124, hnc124⟩ := zn NB533_535; obtain ⟨hnb125, hnc125⟩ := zn NB533_536; obtain ⟨hcz126_0, hcz126_1, hcz126_2, hfz126_0, hfz126_1, hfz126_2⟩ := cq3 BK533; obtain ⟨hnb127, hnc127⟩ := zn NB534_535; obtain ⟨hnb128, hnc128⟩ := zn NB534_536; obtain ⟨hcz129_0, hcz129_1, hcz129_2, hfz129_0, hfz129_1, hfz129_2⟩ := cq3 BK534; obtain ⟨hnb130, hnc130⟩ := zn NB535_536; obtain ⟨hcz131_0, hcz131_1, hcz131_2, hfz131_0, hfz131_1, hfz131_2⟩ := cq3 BK535) | ((with_reducible refine zg 22 rfl ?_); refine Kd.R_lit k27 _ 27 ?hg (N := 22) ?hd (xs := ([(⟨a1_0, a1_1, a1_2⟩ : S27), (⟨a2_0, a2_1, a2_2⟩ : S27), (⟨a3_0, a3_1, a3_2⟩ : S27)] : List (S27))) (inner := [.int .i64 a1_0, .int .i64 a1_1, .int .i64 a1_2, .int .i64 a2_0, .int .i64 a2_1, .int .i64 a2_2, .int .i64 a3_0, .int .i64 a3_1, .int .i64 a3_2]) (ok := fun _ => True) (okp := fun _ => True) ?hr ?hp (fun _ hk => hk) trivial (Below.refl _ _) (Nat.le_refl _) (by simp) ?_; (case hd => rfl); (case hg => rfl); (case hr => first | (go_simp; done) | (go_simp; rfl)); (case hp => exact (Reps.c3 (show Kd.M k27 _ _ _ (⟨a1_0, a1_1, a1_2⟩ : S27) [.int .i64 a1_0, .int .i64 a1_1, .int .i64 a1_2] from (k27_mkM _ _ _ (⟨a1_0, a1_1, a1_2⟩ : S27) )) (Reps.c3 (show Kd.M k27 _ _ _ (⟨a2_0, a2_1, a2_2⟩ : S27) [.int .i64 a2_0, .int .i64 a2_1, .int .i64 a2_2] from (k27_mkM _ _ _ (⟨a2_0, a2_1, a2_2⟩ : S27) )) (Reps.c3 (show Kd.M k27 _ _ _ (⟨a3_0, a3_1, a3_2⟩ : S27) [.int .i64 a3_0, .int .i64 a3_1, .int .i64 a3_2] from (k27_mkM _ _ _ (⟨a3_0, a3_1, a3_2⟩ : S27) )) (Reps.none _ _))))); intro v538 w132 ho133 hb hg_ hnew_; clear hg_ hnew_; (first | rw [← Ny537.out] at ho133 | (simp only [Int.reduceToNat] at ho133; rw [← Ny537.out] at ho133)); have HO539 := Aside0.mk (Kd.R_lower (Kd.R_newB (Kd.R_newB (Kd.R_newB (Kd.R_newB ho133 (g := gb533) (o := .cells #[.int .i64 a1_0, .int .i64 a1_1, .int .i64 a1_2] 27 (0, 0)) (be BK533)) (g := gb534) (o := .cells #[.int .i64 a2_0, .int .i64 a2_1, .int .i64 a2_2] 27 (0, 0)) (be BK534)) (g := gb535) (o := .cells #[.int .i64 a3_0, .int .i64 a3_1, .int .i64 a3_2] 27 (0, 0)) (be BK535)) (g := gb536) (o := .cells #[.int .i64 0, .int .i64 0, .int .i64 0] 27 (0, 0)) (be BK536)) (below_size (bl))); replace BK533 := bb BK533 hb; replace BK534 := bb BK534 hb; replace BK535 := bb BK535 hb; replace BK536 := bb BK536 hb; replace HB := bs hb; clear hb ho133; obtain ⟨Ao134, co134, eo134⟩ := Kd.R_slice HO539.out; subst eo134) | ((with_reducible refine zf 81 rfl ?_); refine g1 (some 23) Try.func81 #[.int .i64 a0, .slice Ao134 y537.length co134] ?_; (with_reducible refine (spec_l01Code.calls k a0 _ _ y537 t540 _ ?side1 ?side2 A5.out).mono ?_); (case side1 => repeat (first | exact (Kd.R_reads' HO539.out).2.2 | (with_reducible refine Kd.C_alloc ?_ _) | (with_reducible refine Kd.C_drewN ?_ _) | (with_reducible refine Kd.C_drew ?_))); (case side2 => exact (Kd.R_reads' HO539.out).2.1); rintro e w135 ⟨rfl, hb⟩; refine ⟨_, rfl, ?_⟩; replace HO539 := Aside0.mk (Kd.R_below (by (with_reducible repeat (first | apply Kd.R_alloc | apply Kd.R_drewN | apply Kd.R_drew)); exact HO539.out) hb); replace BK533 := bb BK533 hb; replace BK534 := bb BK534 hb; replace BK535 := bb BK535 hb; replace BK536 := bb BK536 hb; replace HB := bs hb; (try clear hb); obtain ⟨hcz136_0, hcz136_1, hcz136_2, hfz136_0, hfz136_1, hfz136_2⟩ := cq3 BK536))
  refine bodyPost_ret (results_ct rfl _ _ gb536 27 #[.int .i64 0, .int .i64 0, .int .i64 0] (0, 0) _ rfl (bp) Try.underlying27 rfl (by kernel_rfl)) rfl ?_
  exact ⟨er, bl⟩

/-! ### spec_DrawSphereAround: function 54 -/
def spec_DrawSphereAround.f (k : Nat) (l0 : List Int) : Option (Int × Int × Int × Int × Int) := (spec_l01From.f k l0).bind fun bt556 => ((spec_l01Spoil.f k bt556.1 bt556.2.1 bt556.2.2).bind fun bt560 => ((spec_l01Pick.f bt556.1 bt560.2.2.2.2.1 bt560.2.2.2.2.2 (([0, 1, 1, 2, 2, 3, 5] : List Int))).bind fun bt570 => (if bt560.1 > 3 then (some (bt560.1, bt560.2.1, bt560.2.2.1, bt560.2.2.2.1, mn bt570.1 2)) else (some (bt560.1, bt560.2.1, bt560.2.2.1, bt560.2.2.2.1, bt570.1)))))
set_option maxHeartbeats 8000000 in
set_option maxRecDepth 100000 in
theorem spec_DrawSphereAround.calls (k : Nat) (A0 : Option Addr) (c0 : Nat) (l0 : List Int) (r1 : Int) (r2 : Int) (r3 : Int) (r4 : Int) (r5 : Int) (w : World) (hr0 : Kd.C (Kd.int .u8) w A0 l0.length l0) (hc0 : l0.length ≤ c0) (h : spec_DrawSphereAround.f k l0 = some (r1, r2, r3, r4, r5)) :
  Calls Try.prog 54 #[.slice A0 l0.length c0] w fun e w' => e = .returned (.tuple #[.int .i64 r1, .agg #[.int .i64 r2, .int .i64 r3, .int .i64 r4], .int .i64 r5]) ∧ Below w.heap.size w w' := by
 have hu27 := Try.underlying27
 have HR0 := Aside0.mk hr0
 have HC0 := Aside0.mk hc0
 clear hr0 hc0
 have HB := Aside0.mk (Below.refl w.heap.size w)
 unfold spec_DrawSphereAround.f at h
 have H := h
 clear h
 replace H := zi H
 obtain ⟨⟨t556, t557, t558⟩, A2, H⟩ := H
 try dsimp only at H
 replace H := zi H
 obtain ⟨⟨t560, t561, t562, t563, t564, t565⟩, A3, H⟩ := H
 try dsimp only at H
 obtain ⟨y567, hy567⟩ : ∃ y_ : List Int, y_ = (([0, 1, 1, 2, 2, 3, 5] : List Int)) := ⟨_, rfl⟩
 replace H : ((spec_l01Pick.f t556 t564 t565 y567).bind fun bt570 => (if t560 > 3 then (some (t560, t561, t562, t563, mn bt570.1 2)) else (some (t560, t561, t562, t563, bt570.1)))) = some (r1, r2, r3, r4, r5) := by first | exact hy567 ▸ H | exact H
 have Ny567 := Aside0.mk hy567
 clear hy567
 replace H := zi H
 obtain ⟨⟨t570, t571, t572⟩, A4, H⟩ := H
 try dsimp only at H
 replace H := ii H
 rcases H with ⟨c5, H⟩ | ⟨c5, H⟩
 ·have c5b0 := decide_eq_true c5
  clear c5
  obtain ⟨ji6, hji6⟩ : ∃ j_ : Int, (mn t570 2) = j_ := ⟨_, rfl⟩
  replace H : (some (t560, t561, t562, t563, ji6)) = some (r1, r2, r3, r4, r5) := by first | (rw [hji6] at H; exact H) | (simp only [hji6] at H ⊢; exact H)
  (try rw [hji6] at A2)
  (try rw [hji6] at A3)
  (try rw [hji6] at A4)
  (try (have hji6h : ji6 ≤ 2 := by (rw [← hji6]; unfold mn; (repeat' split) <;> omega)))
  (try (have hji6g : ji6 ≤ 64 := by omega))
  have hji6_ : (if 2 < t570 then 2 else t570) = ji6 := hji6
  simp only [Option.some.injEq, Prod.mk.injEq] at H
  obtain ⟨rfl, rfl, rfl, rfl, rfl⟩ := H
  go_enter Try.func54, Try.ntmps54
  try go_wp2_with (first | ((with_reducible refine zg 3 rfl ?_); refine z3 3 27 0 0 0 ?_; intro gb555 hg w7 BK555 hb; have GW555 := sg hg; replace HB := bs hb; clear hb hg) | ((with_reducible refine zf 98 rfl ?_); refine g1 (some 10) Try.func98 #[.slice A0 l0.length c0] ?_; (with_reducible refine (spec_l01From.calls k _ _ l0 t556 t557 t558 w _ ?side1 ?side2 ?side3 A2.out).mono ?_); (case side1 => exact bl); (case side2 => exact HR0.out); (case side3 => exact HC0.out); rintro e w8 ⟨g559, rfl, hi, hb, hb2⟩; refine ⟨_, rfl, ?_⟩; have HI559 := Aside0.mk (hi); have NB559_555 := Aside0.mk (IsS127.ne_blk hi (blk_below (g := gb555) (o := .cells #[.int .i64 0, .int .i64 0, .int .i64 0] 27 (0, 0)) (be BK555) hb2) (by decide)); have NB555_559 := Aside0.mk (Ne.symm (IsS127.ne_blk hi (blk_below (g := gb555) (o := .cells #[.int .i64 0, .int .i64 0, .int .i64 0] 27 (0, 0)) (be BK555) hb2) (by decide))); replace BK555 := Aside0.mk (blk_below (g := gb555) (o := .cells #[.int .i64 0, .int .i64 0, .int .i64 0] 27 (0, 0)) (be BK555) hb2); replace HB := Aside0.mk (hb); (try clear hb); (try clear hb2); (try clear hk); (try clear hi)) | ((with_reducible refine zf 99 rfl ?_); refine g1 (some 13) Try.func99 #[.pointer (some ⟨g559, 0, none⟩)] ?_; (with_reducible refine (spec_l01Spoil.calls k g559 t556 t557 t558 t560 t561 t562 t563 t564 t565 w _ ?side1 ?side2 A3.out).mono ?_); (case side1 => repeat (first | (with_reducible first | exact HI559.out | apply IsS127.alloc | apply IsS127.drewN | apply IsS127.drew | apply IsS127.set_1 | apply IsS127.set_2 | refine IsS127.far ?_ NB559_555.out _) | exact HI559.out)); (case side2 => repeat (first | (with_reducible first | exact HB.out | apply below_alloc | apply pw_below_drewN | apply below_drew1 | refine below_set ?_ (IsS127.ge HI559.out) | refine below_set ?_ GW555.out) | exact HB.out)); rintro e w9 ⟨rfl, hi, hb, hk⟩; refine ⟨_, rfl, ?_⟩; replace BK555 := kb hk BK555 NB555_559; replace HI559 := Aside0.mk (hi); replace HB := Aside0.mk (hb); (try clear hb hk)) | ((with_reducible refine zg 7 rfl ?_); refine z3 7 27 0 0 0 ?_; intro gb566 hg w10 BK566 hb; have GW566 := Aside0.mk ((by rw [hg]; exact (below_size (by repeat (first | (with_reducible first | exact HB.out | apply below_alloc | apply pw_below_drewN | apply below_drew1 | refine below_set ?_ (IsS127.ge HI559.out) | refine below_set ?_ GW555.out) | exact HB.out))) : w.heap.size ≤ gb566)); have GE566 := Aside0.mk ((by rw [hg]; exact (below_size (by repeat (first | (with_reducible first | exact HB.out | apply below_alloc | apply pw_below_drewN | apply below_drew1 | refine below_set ?_ (IsS127.ge HI559.out) | refine below_set ?_ GW555.out) | exact HB.out))) : w.heap.size ≤ gb566)); have NB555_566 := nl hg BK555; have NB559_566 := Aside0.mk ((by rw [hg]; exact Nat.ne_of_lt (IsS127.lt (show IsS127 w _ g559 t556 t564 t565 from by repeat (first | (with_reducible first | exact HI559.out | apply IsS127.alloc | apply IsS127.drewN | apply IsS127.drew | apply IsS127.set_1 | apply IsS127.set_2 | refine IsS127.far ?_ NB559_555.out _) | exact HI559.out))) : g559 ≠ gb566)); have NB566_559 := Aside0.mk ((by rw [hg]; exact Nat.ne_of_gt (IsS127.lt (show IsS127 w _ g559 t556 t564 t565 from by repeat (first | (with_reducible first | exact HI559.out | apply IsS127.alloc | apply IsS127.drewN | apply IsS127.drew | apply IsS127.set_1 | apply IsS127.set_2 | refine IsS127.far ?_ NB559_555.out _) | exact HI559.out))) : gb566 ≠ g559)); replace BK555 := bb BK555 hb; replace HB := Aside0.mk (below_step (by repeat (first | (with_reducible first | exact HB.out | apply below_alloc | apply pw_below_drewN | apply below_drew1 | refine below_set ?_ (IsS127.ge HI559.out) | refine below_set ?_ GW555.out) | exact HB.out)) hb); replace HI559 := Aside0.mk (IsS127.below (by repeat (first | (with_reducible first | exact HI559.out | apply IsS127.alloc | apply IsS127.drewN | apply IsS127.drew | apply IsS127.set_1 | apply IsS127.set_2 | refine IsS127.far ?_ NB559_555.out _) | exact HI559.out)) hb); clear hb hg; obtain ⟨hnb11, hnc11⟩ := zm NB555_566; have hnb12 := NB566_559.out; have hnc12 := NB559_566.out; obtain ⟨hcz13_0, hcz13_1, hcz13_2, hfz13_0, hfz13_1, hfz13_2⟩ := cq3 BK566) | ((with_reducible refine zg 17 rfl ?_); refine Kd.R_lit (Kd.int .i64) _ 2 ?hg (N := 17) ?hd (xs := ([0, 1, 1, 2, 2, 3, 5] : List Int)) (inner := [.int .i64 0, .int .i64 1, .int .i64 1, .int .i64 2, .int .i64 2, .int .i64 3, .int .i64 5]) (ok := fun _ => True) (okp := fun _ => True) ?hr ?hp (fun _ hk => hk) trivial (Below.refl _ _) (Nat.le_refl _) (by simp) ?_; (case hd => rfl); (case hg => rfl); (case hr => first | (go_simp; done) | (go_simp; rfl)); (case hp => exact (Reps.one (show Kd.M (Kd.int .i64) _ _ _ 0 [.int .i64 0] from rfl) (Reps.one (show Kd.M (Kd.int .i64) _ _ _ 1 [.int .i64 1] from rfl) (Reps.one (show Kd.M (Kd.int .i64) _ _ _ 1 [.int .i64 1] from rfl) (Reps.one (show Kd.M (Kd.int .i64) _ _ _ 2 [.int .i64 2] from rfl) (Reps.one (show Kd.M (Kd.int .i64) _ _ _ 2 [.int .i64 2] from rfl) (Reps.one (show Kd.M (Kd.int .i64) _ _ _ 3 [.int .i64 3] from rfl) (Reps.one (show Kd.M (Kd.int .i64) _ _ _ 5 [.int .i64 5] from rfl) (Reps.none _ _))))))))); intro v568 w14 ho15 hb hg_ hnew_; clear hg_ hnew_; (first | rw [← Ny567.out] at ho15 | (simp only [Int.reduceToNat] at ho15; rw [← Ny567.out] at ho15)); have HO569 := Aside0.mk (Kd.R_lower ho15 (below_size (by repeat (first | (with_reducible first | exact HB.out | apply below_alloc | apply pw_below_drewN | apply below_drew1 | refine below_set ?_ (IsS127.ge HI559.out) | refine below_set ?_ GW555.out | refine below_set ?_ GE566.out) | exact HB.out)))); replace BK555 := Aside0.mk (blk_below (g := gb555) (o := .cells #[.int .i64 0, .int .i64 0, .int .i64 0] 27 (0, 0)) (bp) hb); replace BK566 := Aside0.mk (blk_below (g := gb566) (o := .cells #[.int .i64 t561, .int .i64 t562, .int .i64 t563] 27 (0, 0)) (bp) hb); replace HB := Aside0.mk (below_step (by repeat (first | (with_reducible first | exact HB.out | apply below_alloc | apply pw_below_drewN | apply below_drew1 | refine below_set ?_ (IsS127.ge HI559.out) | refine below_set ?_ GW555.out | refine below_set ?_ GE566.out) | exact HB.out)) hb); replace HI559 := Aside0.mk (IsS127.below (show IsS127 w (((w10.setCell ⟨gb566, 0, none⟩ (.int .i64 t561)).setCell ⟨gb566, 1, none⟩ (.int .i64 t562)).setCell ⟨gb566, 2, none⟩ (.int .i64 t563)) g559 t556 t564 t565 from by repeat (first | (with_reducible first | exact HI559.out | apply IsS127.alloc | apply IsS127.drewN | apply IsS127.drew | apply IsS127.set_1 | apply IsS127.set_2 | refine IsS127.far ?_ NB559_555.out _ | refine IsS127.far ?_ NB559_566.out _) | exact HI559.out)) hb); clear hb ho15; obtain ⟨Ao16, co16, eo16⟩ := Kd.R_slice HO569.out; subst eo16) | ((with_reducible refine zf 100 rfl ?_); refine g1 (some 18) Try.func100 #[.pointer (some ⟨g559, 0, none⟩), .slice Ao16 y567.length co16] ?_; (with_reducible refine (spec_l01Pick.calls g559 t556 t564 t565 _ _ y567 t570 t571 t572 w _ ?side1 ?side2 ?side3 ?side4 ?side5 A4.out).mono ?_); (case side1 => repeat (first | (with_reducible first | exact HI559.out | apply IsS127.alloc | apply IsS127.drewN | apply IsS127.drew | apply IsS127.set_1 | apply IsS127.set_2 | refine IsS127.far ?_ NB559_555.out _ | refine IsS127.far ?_ NB559_566.out _) | exact HI559.out)); (case side2 => repeat (first | (with_reducible first | exact HB.out | apply below_alloc | apply pw_below_drewN | apply below_drew1 | refine below_set ?_ (IsS127.ge HI559.out) | refine below_set ?_ GW555.out | refine below_set ?_ GE566.out) | exact HB.out)); (case side3 => repeat (first | exact (Kd.R_reads' HO569.out).2.2 | (with_reducible refine Kd.C_alloc ?_ _) | (with_reducible refine Kd.C_drewN ?_ _) | (with_reducible refine Kd.C_drew ?_))); (case side4 => exact (Kd.R_reads' HO569.out).2.1); (case side5 => exact far_slice (IsS127.own_ne HI559.out HO569.out (by decide))); rintro e w17 ⟨rfl, hi, hb, hk⟩; refine ⟨_, rfl, ?_⟩; replace BK555 := kb hk BK555 NB555_559; replace BK566 := kb hk BK566 NB566_559; replace HO569 := Aside0.mk (Kd.R_mono (Kd.R_keep (IsS127.apart (show IsS127 w _ g559 t556 t564 t565 from by repeat (first | (with_reducible first | exact HI559.out | apply IsS127.alloc | apply IsS127.drewN | apply IsS127.drew | apply IsS127.set_1 | apply IsS127.set_2 | refine IsS127.far ?_ NB559_555.out _ | refine IsS127.far ?_ NB559_566.out _) | exact HI559.out)) (by (with_reducible repeat (first | apply Kd.R_alloc | apply Kd.R_drewN | apply Kd.R_drew)); exact HO569.out) (by decide)) hk (fun _ h => h.2)) (fun _ h => h.1)); replace HI559 := Aside0.mk (hi); replace HB := Aside0.mk (hb); (try clear hb hk)))
  replace HO569 := Aside0.mk (Kd.R_drew HO569.out)
  replace BK555 := Aside0.mk (blk_drew BK555.out)
  replace BK566 := Aside0.mk (blk_drew BK566.out)
  replace HI559 := Aside0.mk (IsS127.drew HI559.out)
  replace HB := Aside0.mk (below_drew1 HB.out)
  refine start_ (n := 6) (S := fun w' => w'.cell? ⟨gb566, 0, none⟩ = some (.int .i64 t561) ∧ w'.cell? ⟨gb566, 1, none⟩ = some (.int .i64 t562) ∧ w'.cell? ⟨gb566, 2, none⟩ = some (.int .i64 t563)) (ds := []) (tA 6 0) (by kernel_rfl) rfl rfl ⟨(blk_cell BK566.out 0).trans rfl, (blk_cell BK566.out 1).trans rfl, (blk_cell BK566.out 2).trans rfl⟩ (fun hHeld => ?_)
  generalize w17.drew = w18 at HO569 BK555 BK566 HI559 HB hHeld ⊢
  refine pr 0 (some 23) (tA 6 1) ?_
  refine pr 2 (some 25) (tA 6 5) ?_
  refine pr 3 (some 2) (tA 6 13) ?_
  refine tr3 1 (some 24) (tA 6 15) hHeld ?_
  refine one_ (i := 4) (N := none) (tA 6 31) rfl rfl (by kernel_rfl) (by decide) (fun K hK => ?_)
  have hs19 : w18.cell? ⟨gb555, 0, none⟩ = some (.int .i64 0) := (blk_cell BK555.out 0).trans rfl
  have hfs19 := blk_frozen BK555.out 0
  obtain ⟨hns19_1, hms19_1⟩ := zm NB555_566
  have hs20 : w18.cell? ⟨gb555, 1, none⟩ = some (.int .i64 0) := (blk_cell BK555.out 1).trans rfl
  have hfs20 := blk_frozen BK555.out 1
  obtain ⟨hns20_1, hms20_1⟩ := zm NB555_566
  have hs21 : w18.cell? ⟨gb555, 2, none⟩ = some (.int .i64 0) := (blk_cell BK555.out 2).trans rfl
  have hfs21 := blk_frozen BK555.out 2
  obtain ⟨hns21_1, hms21_1⟩ := zm NB555_566
  refine skip_ (w1 := ?_) (by rfl) rfl ?_ ?_
  rotate_left
  ·go_simp
   rfl
  refine hK.out _ _ (m3 hHeld (fun e => cs gb555 NB555_566 (cs gb555 NB555_566 (cs gb555 NB555_566 e)))) (fun hHeld => ?_)
  clear hK K
  refine pr 5 (some 4) (tA 6 63) ?_
  refine done_ (by kernel_rfl) ?_
  try go_wp2
  refine bodyPost_ret (results_list (rs := [.tmp 2, .cell 3 27, .tmp 4]) rfl (by simp) (.tmp (.cell gb555 27 #[.int .i64 t561, .int .i64 t562, .int .i64 t563] (0, 0) _ rfl (bp) Try.underlying27 rfl (by kernel_rfl) (.tmp .nil)))) rfl ?_
  exact ⟨by first | rfl | (simp [errW_none, errW_some] <;> rfl) | (simp only [← hji6]; first | rfl | (simp [errW_none, errW_some] <;> rfl)) | (simp [*, errW_none, errW_some] <;> rfl), by repeat (first | (with_reducible first | exact HB.out | apply below_alloc | apply pw_below_drewN | apply below_drew1 | refine below_set ?_ (IsS127.ge HI559.out) | refine below_set ?_ GW555.out | refine below_set ?_ GE566.out) | exact HB.out)⟩
 ·have c5b0 := decide_eq_false c5
  clear c5
  simp only [Option.some.injEq, Prod.mk.injEq] at H
  obtain ⟨rfl, rfl, rfl, rfl, rfl⟩ := H
  go_enter Try.func54, Try.ntmps54
  try go_wp2_with (first | ((with_reducible refine zg 3 rfl ?_); refine z3 3 27 0 0 0 ?_; intro gb555 hg w22 BK555 hb; have GW555 := sg hg; replace HB := bs hb; clear hb hg) | ((with_reducible refine zf 98 rfl ?_); refine g1 (some 10) Try.func98 #[.slice A0 l0.length c0] ?_; (with_reducible refine (spec_l01From.calls k _ _ l0 t556 t557 t558 w _ ?side1 ?side2 ?side3 A2.out).mono ?_); (case side1 => exact bl); (case side2 => exact HR0.out); (case side3 => exact HC0.out); rintro e w23 ⟨g559, rfl, hi, hb, hb2⟩; refine ⟨_, rfl, ?_⟩; have HI559 := Aside0.mk (hi); have NB559_555 := Aside0.mk (IsS127.ne_blk hi (blk_below (g := gb555) (o := .cells #[.int .i64 0, .int .i64 0, .int .i64 0] 27 (0, 0)) (be BK555) hb2) (by decide)); have NB555_559 := Aside0.mk (Ne.symm (IsS127.ne_blk hi (blk_below (g := gb555) (o := .cells #[.int .i64 0, .int .i64 0, .int .i64 0] 27 (0, 0)) (be BK555) hb2) (by decide))); replace BK555 := Aside0.mk (blk_below (g := gb555) (o := .cells #[.int .i64 0, .int .i64 0, .int .i64 0] 27 (0, 0)) (be BK555) hb2); replace HB := Aside0.mk (hb); (try clear hb); (try clear hb2); (try clear hk); (try clear hi)) | ((with_reducible refine zf 99 rfl ?_); refine g1 (some 13) Try.func99 #[.pointer (some ⟨g559, 0, none⟩)] ?_; (with_reducible refine (spec_l01Spoil.calls k g559 t556 t557 t558 t560 t561 t562 t563 t564 t565 w _ ?side1 ?side2 A3.out).mono ?_); (case side1 => repeat (first | (with_reducible first | exact HI559.out | apply IsS127.alloc | apply IsS127.drewN | apply IsS127.drew | apply IsS127.set_1 | apply IsS127.set_2 | refine IsS127.far ?_ NB559_555.out _) | exact HI559.out)); (case side2 => repeat (first | (with_reducible first | exact HB.out | apply below_alloc | apply pw_below_drewN | apply below_drew1 | refine below_set ?_ (IsS127.ge HI559.out) | refine below_set ?_ GW555.out) | exact HB.out)); rintro e w24 ⟨rfl, hi, hb, hk⟩; refine ⟨_, rfl, ?_⟩; replace BK555 := kb hk BK555 NB555_559; replace HI559 := Aside0.mk (hi); replace HB := Aside0.mk (hb); (try clear hb hk)) | ((with_reducible refine zg 7 rfl ?_); refine z3 7 27 0 0 0 ?_; intro gb566 hg w25 BK566 hb; have GW566 := Aside0.mk ((by rw [hg]; exact (below_size (by repeat (first | (with_reducible first | exact HB.out | apply below_alloc | apply pw_below_drewN | apply below_drew1 | refine below_set ?_ (IsS127.ge HI559.out) | refine below_set ?_ GW555.out) | exact HB.out))) : w.heap.size ≤ gb566)); have GE566 := Aside0.mk ((by rw [hg]; exact (below_size (by repeat (first | (with_reducible first | exact HB.out | apply below_alloc | apply pw_below_drewN | apply below_drew1 | refine below_set ?_ (IsS127.ge HI559.out) | refine below_set ?_ GW555.out) | exact HB.out))) : w.heap.size ≤ gb566)); have NB555_566 := nl hg BK555; have NB559_566 := Aside0.mk ((by rw [hg]; exact Nat.ne_of_lt (IsS127.lt (show IsS127 w _ g559 t556 t564 t565 from by repeat (first | (with_reducible first | exact HI559.out | apply IsS127.alloc | apply IsS127.drewN | apply IsS127.drew | apply IsS127.set_1 | apply IsS127.set_2 | refine IsS127.far ?_ NB559_555.out _) | exact HI559.out))) : g559 ≠ gb566)); have NB566_559 := Aside0.mk ((by rw [hg]; exact Nat.ne_of_gt (IsS127.lt (show IsS127 w _ g559 t556 t564 t565 from by repeat (first | (with_reducible first | exact HI559.out | apply IsS127.alloc | apply IsS127.drewN | apply IsS127.drew | apply IsS127.set_1 | apply IsS127.set_2 | refine IsS127.far ?_ NB559_555.out _) | exact HI559.out))) : gb566 ≠ g559)); replace BK555 := bb BK555 hb; replace HB := Aside0.mk (below_step (by repeat (first | (with_reducible first | exact HB.out | apply below_alloc | apply pw_below_drewN | apply below_drew1 | refine below_set ?_ (IsS127.ge HI559.out) | refine below_set ?_ GW555.out) | exact HB.out)) hb); replace HI559 := Aside0.mk (IsS127.below (by repeat (first | (with_reducible first | exact HI559.out | apply IsS127.alloc | apply IsS127.drewN | apply IsS127.drew | apply IsS127.set_1 | apply IsS127.set_2 | refine IsS127.far ?_ NB559_555.out _) | exact HI559.out)) hb); clear hb hg; obtain ⟨hnb26, hnc26⟩ := zm NB555_566; have hnb27 := NB566_559.out; have hnc27 := NB559_566.out; obtain ⟨hcz28_0, hcz28_1, hcz28_2, hfz28_0, hfz28_1, hfz28_2⟩ := cq3 BK566) | ((with_reducible refine zg 17 rfl ?_); refine Kd.R_lit (Kd.int .i64) _ 2 ?hg (N := 17) ?hd (xs := ([0, 1, 1, 2, 2, 3, 5] : List Int)) (inner := [.int .i64 0, .int .i64 1, .int .i64 1, .int .i64 2, .int .i64 2, .int .i64 3, .int .i64 5]) (ok := fun _ => True) (okp := fun _ => True) ?hr ?hp (fun _ hk => hk) trivial (Below.refl _ _) (Nat.le_refl _) (by simp) ?_; (case hd => rfl); (case hg => rfl); (case hr => first | (go_simp; done) | (go_simp; rfl)); (case hp => exact (Reps.one (show Kd.M (Kd.int .i64) _ _ _ 0 [.int .i64 0] from rfl) (Reps.one (show Kd.M (Kd.int .i64) _ _ _ 1 [.int .i64 1] from rfl) (Reps.one (show Kd.M (Kd.int .i64) _ _ _ 1 [.int .i64 1] from rfl) (Reps.one (show Kd.M (Kd.int .i64) _ _ _ 2 [.int .i64 2] from rfl) (Reps.one (show Kd.M (Kd.int .i64) _ _ _ 2 [.int .i64 2] from rfl) (Reps.one (show Kd.M (Kd.int .i64) _ _ _ 3 [.int .i64 3] from rfl) (Reps.one (show Kd.M (Kd.int .i64) _ _ _ 5 [.int .i64 5] from rfl) (Reps.none _ _))))))))); intro v568 w29 ho30 hb hg_ hnew_; clear hg_ hnew_; (first | rw [← Ny567.out] at ho30 | (simp only [Int.reduceToNat] at ho30; rw [← Ny567.out] at ho30)); have HO569 := Aside0.mk (Kd.R_lower ho30 (below_size (by repeat (first | (with_reducible first | exact HB.out | apply below_alloc | apply pw_below_drewN | apply below_drew1 | refine below_set ?_ (IsS127.ge HI559.out) | refine below_set ?_ GW555.out | refine below_set ?_ GE566.out) | exact HB.out)))); replace BK555 := Aside0.mk (blk_below (g := gb555) (o := .cells #[.int .i64 0, .int .i64 0, .int .i64 0] 27 (0, 0)) (bp) hb); replace BK566 := Aside0.mk (blk_below (g := gb566) (o := .cells #[.int .i64 t561, .int .i64 t562, .int .i64 t563] 27 (0, 0)) (bp) hb); replace HB := Aside0.mk (below_step (by repeat (first | (with_reducible first | exact HB.out | apply below_alloc | apply pw_below_drewN | apply below_drew1 | refine below_set ?_ (IsS127.ge HI559.out) | refine below_set ?_ GW555.out | refine below_set ?_ GE566.out) | exact HB.out)) hb); replace HI559 := Aside0.mk (IsS127.below (show IsS127 w (((w25.setCell ⟨gb566, 0, none⟩ (.int .i64 t561)).setCell ⟨gb566, 1, none⟩ (.int .i64 t562)).setCell ⟨gb566, 2, none⟩ (.int .i64 t563)) g559 t556 t564 t565 from by repeat (first | (with_reducible first | exact HI559.out | apply IsS127.alloc | apply IsS127.drewN | apply IsS127.drew | apply IsS127.set_1 | apply IsS127.set_2 | refine IsS127.far ?_ NB559_555.out _ | refine IsS127.far ?_ NB559_566.out _) | exact HI559.out)) hb); clear hb ho30; obtain ⟨Ao31, co31, eo31⟩ := Kd.R_slice HO569.out; subst eo31) | ((with_reducible refine zf 100 rfl ?_); refine g1 (some 18) Try.func100 #[.pointer (some ⟨g559, 0, none⟩), .slice Ao31 y567.length co31] ?_; (with_reducible refine (spec_l01Pick.calls g559 t556 t564 t565 _ _ y567 t570 t571 t572 w _ ?side1 ?side2 ?side3 ?side4 ?side5 A4.out).mono ?_); (case side1 => repeat (first | (with_reducible first | exact HI559.out | apply IsS127.alloc | apply IsS127.drewN | apply IsS127.drew | apply IsS127.set_1 | apply IsS127.set_2 | refine IsS127.far ?_ NB559_555.out _ | refine IsS127.far ?_ NB559_566.out _) | exact HI559.out)); (case side2 => repeat (first | (with_reducible first | exact HB.out | apply below_alloc | apply pw_below_drewN | apply below_drew1 | refine below_set ?_ (IsS127.ge HI559.out) | refine below_set ?_ GW555.out | refine below_set ?_ GE566.out) | exact HB.out)); (case side3 => repeat (first | exact (Kd.R_reads' HO569.out).2.2 | (with_reducible refine Kd.C_alloc ?_ _) | (with_reducible refine Kd.C_drewN ?_ _) | (with_reducible refine Kd.C_drew ?_))); (case side4 => exact (Kd.R_reads' HO569.out).2.1); (case side5 => exact far_slice (IsS127.own_ne HI559.out HO569.out (by decide))); rintro e w32 ⟨rfl, hi, hb, hk⟩; refine ⟨_, rfl, ?_⟩; replace BK555 := kb hk BK555 NB555_559; replace BK566 := kb hk BK566 NB566_559; replace HO569 := Aside0.mk (Kd.R_mono (Kd.R_keep (IsS127.apart (show IsS127 w _ g559 t556 t564 t565 from by repeat (first | (with_reducible first | exact HI559.out | apply IsS127.alloc | apply IsS127.drewN | apply IsS127.drew | apply IsS127.set_1 | apply IsS127.set_2 | refine IsS127.far ?_ NB559_555.out _ | refine IsS127.far ?_ NB559_566.out _) | exact HI559.out)) (by (with_reducible repeat (first | apply Kd.R_alloc | apply Kd.R_drewN | apply Kd.R_drew)); exact HO569.out) (by decide)) hk (fun _ h => h.2)) (fun _ h => h.1)); replace HI559 := Aside0.mk (hi); replace HB := Aside0.mk (hb); (try clear hb hk)))
  replace HO569 := Aside0.mk (Kd.R_drew HO569.out)
  replace BK555 := Aside0.mk (blk_drew BK555.out)
  replace BK566 := Aside0.mk (blk_drew BK566.out)
  replace HI559 := Aside0.mk (IsS127.drew HI559.out)
  replace HB := Aside0.mk (below_drew1 HB.out)
  refine start_ (n := 6) (S := fun w' => w'.cell? ⟨gb566, 0, none⟩ = some (.int .i64 t561) ∧ w'.cell? ⟨gb566, 1, none⟩ = some (.int .i64 t562) ∧ w'.cell? ⟨gb566, 2, none⟩ = some (.int .i64 t563)) (ds := []) (tA 6 0) (by kernel_rfl) rfl rfl ⟨(blk_cell BK566.out 0).trans rfl, (blk_cell BK566.out 1).trans rfl, (blk_cell BK566.out 2).trans rfl⟩ (fun hHeld => ?_)
  generalize w32.drew = w33 at HO569 BK555 BK566 HI559 HB hHeld ⊢
  refine pr 0 (some 23) (tA 6 1) ?_
  refine pr 2 (some 25) (tA 6 5) ?_
  refine pr 3 (some 2) (tA 6 13) ?_
  refine tr3 1 (some 24) (tA 6 15) hHeld ?_
  refine one_ (i := 4) (N := none) (tA 6 31) rfl rfl (by kernel_rfl) (by decide) (fun K hK => ?_)
  have hs34 : w33.cell? ⟨gb555, 0, none⟩ = some (.int .i64 0) := (blk_cell BK555.out 0).trans rfl
  have hfs34 := blk_frozen BK555.out 0
  obtain ⟨hns34_1, hms34_1⟩ := zm NB555_566
  have hs35 : w33.cell? ⟨gb555, 1, none⟩ = some (.int .i64 0) := (blk_cell BK555.out 1).trans rfl
  have hfs35 := blk_frozen BK555.out 1
  obtain ⟨hns35_1, hms35_1⟩ := zm NB555_566
  have hs36 : w33.cell? ⟨gb555, 2, none⟩ = some (.int .i64 0) := (blk_cell BK555.out 2).trans rfl
  have hfs36 := blk_frozen BK555.out 2
  obtain ⟨hns36_1, hms36_1⟩ := zm NB555_566
  refine skip_ (w1 := ?_) (by rfl) rfl ?_ ?_
  rotate_left
  ·go_simp
   rfl
  refine hK.out _ _ (m3 hHeld (fun e => cs gb555 NB555_566 (cs gb555 NB555_566 (cs gb555 NB555_566 e)))) (fun hHeld => ?_)
  clear hK K
  refine pr 5 (some 4) (tA 6 63) ?_
  refine done_ (by kernel_rfl) ?_
  try go_wp2
  refine bodyPost_ret (results_list (rs := [.tmp 2, .cell 3 27, .tmp 4]) rfl (by simp) (.tmp (.cell gb555 27 #[.int .i64 t561, .int .i64 t562, .int .i64 t563] (0, 0) _ rfl (bp) Try.underlying27 rfl (by kernel_rfl) (.tmp .nil)))) rfl ?_
  exact ⟨er, by repeat (first | (with_reducible first | exact HB.out | apply below_alloc | apply pw_below_drewN | apply below_drew1 | refine below_set ?_ (IsS127.ge HI559.out) | refine below_set ?_ GW555.out | refine below_set ?_ GE566.out) | exact HB.out)⟩

/-! ### spec_l01Near: function 118 -/
def spec_l01Near.f (s0_0 : List Int) (s0_1 : Int) (s0_2 : Int) (a1 : Int) : Option (Int × Int × Int) := (spec_l01Next.f s0_0 s0_1 s0_2 14).bind fun bt573 => (if bt573.1 = 0 then ((spec_l01Pick.f s0_0 bt573.2.1 bt573.2.2 (([(-1), wrap64 (a1 + 1), 1099511627776, (-4611686018427387904)] : List Int))).bind fun bt579 => (some (bt579.1, bt579.2.1, bt579.2.2))) else ((spec_l01Next.f s0_0 bt573.2.1 bt573.2.2 (wrap64 (a1 + 1))).bind fun bt582 => (some (bt582.1, bt582.2.1, bt582.2.2))))
set_option maxHeartbeats 8000000 in
set_option maxRecDepth 100000 in
theorem spec_l01Near.calls (g : Nat) (s0_0 : List Int) (s0_1 : Int) (s0_2 : Int) (a1 : Int) (r1 : Int) (r2 : Int) (r3 : Int) (w0 w : World) (hI : IsS127 w0 w g s0_0 s0_1 s0_2) (hB : Below w0.heap.size w0 w) (h : spec_l01Near.f s0_0 s0_1 s0_2 a1 = some (r1, r2, r3)) :
  Calls Try.prog 118 #[.pointer (some ⟨g, 0, none⟩), .int .i64 a1] w fun e w' => e = .returned (.int .i64 r1) ∧ IsS127 w0 w' g s0_0 r2 r3 ∧ Below w0.heap.size w0 w' ∧ KeepBut w w' g none := by
 have HI0 := Aside0.mk hI
 have HK := Aside0.mk (KeepBut.refl w g none)
 have HL := Aside0.mk hB.size
 clear hI
 have HW0 := Aside0.mk hB.size
 have HB := Aside0.mk hB
 clear hB
 unfold spec_l01Near.f at h
 have H := h
 clear h
 replace H := zi H
 obtain ⟨⟨t573, t574, t575⟩, A3, H⟩ := H
 try dsimp only at H
 replace H := ii H
 rcases H with ⟨c4, H⟩ | ⟨c4, H⟩
 ·obtain ⟨c4b0, c4b1⟩ := zz c4
  clear c4
  obtain ⟨y576, hy576⟩ : ∃ y_ : List Int, y_ = (([(-1), wrap64 (a1 + 1), 1099511627776, (-4611686018427387904)] : List Int)) := ⟨_, rfl⟩
  replace H : ((spec_l01Pick.f s0_0 t574 t575 y576).bind fun bt579 => (some (bt579.1, bt579.2.1, bt579.2.2))) = some (r1, r2, r3) := by first | exact hy576 ▸ H | exact H
  have Ny576 := Aside0.mk hy576
  clear hy576
  replace H := zi H
  obtain ⟨⟨t579, t580, t581⟩, A5, H⟩ := H
  try dsimp only at H
  simp only [Option.some.injEq, Prod.mk.injEq] at H
  obtain ⟨rfl, rfl, rfl⟩ := H
  go_enter Try.func118, Try.ntmps118
  go_wp2_with (first | ((with_reducible refine zf 101 rfl ?_); refine g1 (some 6) Try.func101 #[.pointer (some ⟨g, 0, none⟩), .int .i64 14] ?_; (with_reducible refine (spec_l01Next.calls g s0_0 s0_1 s0_2 14 t573 t574 t575 w0 _ ?side1 ?side2 A3.out).mono ?_); (case side1 => exact IsS127.a); (case side2 => exact IsS127.b); rintro e w6 ⟨rfl, hi, hb, hk⟩; refine ⟨_, rfl, ?_⟩; replace HK := Aside0.mk (KeepBut.trans (kl) hk (.inl rfl)); replace HI0 := Aside0.mk (hi); replace HB := Aside0.mk (hb); (try clear hb hk)) | ((with_reducible refine zg 11 rfl ?_); refine Kd.R_lit (Kd.int .i64) _ 2 ?hg (N := 11) ?hd (xs := ([(-1), wrap64 (a1 + 1), 1099511627776, (-4611686018427387904)] : List Int)) (inner := [.int .i64 (-1), .int .i64 (wrap64 (a1 + 1)), .int .i64 1099511627776, .int .i64 (-4611686018427387904)]) (ok := fun _ => True) (okp := fun _ => True) ?hr ?hp (fun _ hk => hk) trivial (Below.refl _ _) (Nat.le_refl _) (by simp) ?_; (case hd => rfl); (case hg => rfl); (case hr => first | (go_simp; done) | (go_simp; rfl)); (case hp => exact (Reps.one (show Kd.M (Kd.int .i64) _ _ _ (-1) [.int .i64 (-1)] from rfl) (Reps.one (show Kd.M (Kd.int .i64) _ _ _ (wrap64 (a1 + 1)) [.int .i64 (wrap64 (a1 + 1))] from rfl) (Reps.one (show Kd.M (Kd.int .i64) _ _ _ 1099511627776 [.int .i64 1099511627776] from rfl) (Reps.one (show Kd.M (Kd.int .i64) _ _ _ (-4611686018427387904) [.int .i64 (-4611686018427387904)] from rfl) (Reps.none _ _)))))); intro v577 w7 ho8 hb hg_ hnew_; clear hg_ hnew_; (first | rw [← Ny576.out] at ho8 | (simp only [Int.reduceToNat] at ho8; rw [← Ny576.out] at ho8)); have HO578 := Aside0.mk (Kd.R_lower ho8 (keep_size (w := w) (g := g) (row := none) (kl))); replace HK := Aside0.mk (KeepBut.trans (kl) (KeepBut.of_below hb g none) (.inl rfl)); replace HB := Aside0.mk (below_step IsS127.b hb); replace HI0 := Aside0.mk (IsS127.below (IsS127.a) hb); clear hb ho8; obtain ⟨Ao9, co9, eo9⟩ := Kd.R_slice HO578.out; subst eo9) | ((with_reducible refine zf 100 rfl ?_); refine g1 (some 12) Try.func100 #[.pointer (some ⟨g, 0, none⟩), .slice Ao9 y576.length co9] ?_; (with_reducible refine (spec_l01Pick.calls g s0_0 t574 t575 _ _ y576 t579 t580 t581 w0 _ ?side1 ?side2 ?side3 ?side4 ?side5 A5.out).mono ?_); (case side1 => exact IsS127.a); (case side2 => exact IsS127.b); (case side3 => repeat (first | exact (Kd.R_reads' HO578.out).2.2 | (with_reducible refine Kd.C_alloc ?_ _) | (with_reducible refine Kd.C_drewN ?_ _) | (with_reducible refine Kd.C_drew ?_))); (case side4 => exact (Kd.R_reads' HO578.out).2.1); (case side5 => exact far_slice (IsS127.own_ne HI0.out HO578.out (by decide))); rintro e w10 ⟨rfl, hi, hb, hk⟩; refine ⟨_, rfl, ?_⟩; replace HO578 := Aside0.mk (Kd.R_mono (Kd.R_keep (IsS127.apart (IsS127.a : IsS127 w0 _ g s0_0 t574 t575) (by (with_reducible repeat (first | apply Kd.R_alloc | apply Kd.R_drewN | apply Kd.R_drew)); exact HO578.out) (by decide)) hk (fun _ h => h.2)) (fun _ h => h.1)); replace HK := Aside0.mk (KeepBut.trans (kl) hk (.inl rfl)); replace HI0 := Aside0.mk (hi); replace HB := Aside0.mk (hb); (try clear hb hk)))
  go_ret
  exact ⟨er, IsS127.a, IsS127.b, kl⟩
 ·obtain ⟨c4b0, c4b1⟩ := zy c4
  replace H := zi H
  obtain ⟨⟨t582, t583, t584⟩, A11, H⟩ := H
  try dsimp only at H
  simp only [Option.some.injEq, Prod.mk.injEq] at H
  obtain ⟨rfl, rfl, rfl⟩ := H
  go_enter Try.func118, Try.ntmps118
  go_wp2_with (first | ((with_reducible refine zf 101 rfl ?_); refine g1 (some 6) Try.func101 #[.pointer (some ⟨g, 0, none⟩), .int .i64 14] ?_; (with_reducible refine (spec_l01Next.calls g s0_0 s0_1 s0_2 14 t573 t574 t575 w0 _ ?side1 ?side2 A3.out).mono ?_); (case side1 => exact IsS127.a); (case side2 => exact IsS127.b); rintro e w12 ⟨rfl, hi, hb, hk⟩; refine ⟨_, rfl, ?_⟩; replace HK := Aside0.mk (KeepBut.trans (kl) hk (.inl rfl)); replace HI0 := Aside0.mk (hi); replace HB := Aside0.mk (hb); (try clear hb hk)) | ((with_reducible refine zf 101 rfl ?_); refine g1 (some 16) Try.func101 #[.pointer (some ⟨g, 0, none⟩), .int .i64 (wrap64 (a1 + 1))] ?_; (with_reducible refine (spec_l01Next.calls g s0_0 t574 t575 (wrap64 (a1 + 1)) t582 t583 t584 w0 _ ?side1 ?side2 A11.out).mono ?_); (case side1 => exact IsS127.a); (case side2 => exact IsS127.b); rintro e w13 ⟨rfl, hi, hb, hk⟩; refine ⟨_, rfl, ?_⟩; replace HK := Aside0.mk (KeepBut.trans (kl) hk (.inl rfl)); replace HI0 := Aside0.mk (hi); replace HB := Aside0.mk (hb); (try clear hb hk)))
  go_ret
  exact ⟨er, IsS127.a, IsS127.b, kl⟩

/-! ### spec_DrawCountOfSphere: function 55 -/
def spec_DrawCountOfSphere.f (k : Nat) (l0 : List Int) : Option (Int × Int) := (spec_l01From.f k l0).bind fun bt585 => ((spec_l01Pick.f bt585.1 bt585.2.1 bt585.2.2 (([2, 3, 5, 7, 4] : List Int))).bind fun bt592 => ((spec_l01Near.f bt585.1 bt592.2.1 bt592.2.2 20).bind fun bt595 => (some (bt592.1, bt595.1))))
set_option maxHeartbeats 8000000 in
set_option maxRecDepth 100000 in
theorem spec_DrawCountOfSphere.calls (k : Nat) (A0 : Option Addr) (c0 : Nat) (l0 : List Int) (r1 : Int) (r2 : Int) (w : World) (hr0 : Kd.C (Kd.int .u8) w A0 l0.length l0) (hc0 : l0.length ≤ c0) (h : spec_DrawCountOfSphere.f k l0 = some (r1, r2)) :
  Calls Try.prog 55 #[.slice A0 l0.length c0] w fun e w' => e = .returned (.tuple #[.int .i64 r1, .int .i64 r2]) ∧ Below w.heap.size w w' := by
 have HR0 := Aside0.mk hr0
 have HC0 := Aside0.mk hc0
 clear hr0 hc0
 have HB := Aside0.mk (Below.refl w.heap.size w)
 unfold spec_DrawCountOfSphere.f at h
 have H := h
 clear h
 replace H := zi H
 obtain ⟨⟨t585, t586, t587⟩, A2, H⟩ := H
 try dsimp only at H
 obtain ⟨y589, hy589⟩ : ∃ y_ : List Int, y_ = (([2, 3, 5, 7, 4] : List Int)) := ⟨_, rfl⟩
 replace H : ((spec_l01Pick.f t585 t586 t587 y589).bind fun bt592 => ((spec_l01Near.f t585 bt592.2.1 bt592.2.2 20).bind fun bt595 => (some (bt592.1, bt595.1)))) = some (r1, r2) := by first | exact hy589 ▸ H | exact H
 have Ny589 := Aside0.mk hy589
 clear hy589
 replace H := zi H
 obtain ⟨⟨t592, t593, t594⟩, A3, H⟩ := H
 try dsimp only at H
 replace H := zi H
 obtain ⟨⟨t595, t596, t597⟩, A4, H⟩ := H
 try dsimp only at H
 simp only [Option.some.injEq, Prod.mk.injEq] at H
 obtain ⟨rfl, rfl⟩ := H
 go_enter Try.func55, Try.ntmps55
 go_wp2_with (first | ((with_reducible refine zf 98 rfl ?_); refine g1 (some 6) Try.func98 #[.slice A0 l0.length c0] ?_; (with_reducible refine (spec_l01From.calls k _ _ l0 t585 t586 t587 w _ ?side1 ?side2 ?side3 A2.out).mono ?_); (case side1 => exact bl); (case side2 => exact HR0.out); (case side3 => exact HC0.out); rintro e w5 ⟨g588, rfl, hi, hb, hb2⟩; refine ⟨_, rfl, ?_⟩; have HI588 := Aside0.mk (hi); replace HB := Aside0.mk (hb); (try clear hb); (try clear hb2); (try clear hk); (try clear hi)) | ((with_reducible refine zg 8 rfl ?_); refine Kd.R_lit (Kd.int .i64) _ 2 ?hg (N := 8) ?hd (xs := ([2, 3, 5, 7, 4] : List Int)) (inner := [.int .i64 2, .int .i64 3, .int .i64 5, .int .i64 7, .int .i64 4]) (ok := fun _ => True) (okp := fun _ => True) ?hr ?hp (fun _ hk => hk) trivial (Below.refl _ _) (Nat.le_refl _) (by simp) ?_; (case hd => rfl); (case hg => rfl); (case hr => first | (go_simp; done) | (go_simp; rfl)); (case hp => exact (Reps.one (show Kd.M (Kd.int .i64) _ _ _ 2 [.int .i64 2] from rfl) (Reps.one (show Kd.M (Kd.int .i64) _ _ _ 3 [.int .i64 3] from rfl) (Reps.one (show Kd.M (Kd.int .i64) _ _ _ 5 [.int .i64 5] from rfl) (Reps.one (show Kd.M (Kd.int .i64) _ _ _ 7 [.int .i64 7] from rfl) (Reps.one (show Kd.M (Kd.int .i64) _ _ _ 4 [.int .i64 4] from rfl) (Reps.none _ _))))))); intro v590 w6 ho7 hb hg_ hnew_; clear hg_ hnew_; (first | rw [← Ny589.out] at ho7 | (simp only [Int.reduceToNat] at ho7; rw [← Ny589.out] at ho7)); have HO591 := Aside0.mk (Kd.R_lower ho7 (below_size (by repeat (first | (with_reducible first | exact HB.out | apply below_alloc | apply pw_below_drewN | apply below_drew1 | refine below_set ?_ (IsS127.ge HI588.out)) | exact HB.out)))); replace HB := Aside0.mk (below_step (by repeat (first | (with_reducible first | exact HB.out | apply below_alloc | apply pw_below_drewN | apply below_drew1 | refine below_set ?_ (IsS127.ge HI588.out)) | exact HB.out)) hb); replace HI588 := Aside0.mk (IsS127.below (by repeat (first | (with_reducible first | exact HI588.out | apply IsS127.alloc | apply IsS127.drewN | apply IsS127.drew | apply IsS127.set_1 | apply IsS127.set_2) | exact HI588.out)) hb); clear hb ho7; obtain ⟨Ao8, co8, eo8⟩ := Kd.R_slice HO591.out; subst eo8) | ((with_reducible refine zf 100 rfl ?_); refine g1 (some 9) Try.func100 #[.pointer (some ⟨g588, 0, none⟩), .slice Ao8 y589.length co8] ?_; (with_reducible refine (spec_l01Pick.calls g588 t585 t586 t587 _ _ y589 t592 t593 t594 w _ ?side1 ?side2 ?side3 ?side4 ?side5 A3.out).mono ?_); (case side1 => repeat (first | (with_reducible first | exact HI588.out | apply IsS127.alloc | apply IsS127.drewN | apply IsS127.drew | apply IsS127.set_1 | apply IsS127.set_2) | exact HI588.out)); (case side2 => repeat (first | (with_reducible first | exact HB.out | apply below_alloc | apply pw_below_drewN | apply below_drew1 | refine below_set ?_ (IsS127.ge HI588.out)) | exact HB.out)); (case side3 => repeat (first | exact (Kd.R_reads' HO591.out).2.2 | (with_reducible refine Kd.C_alloc ?_ _) | (with_reducible refine Kd.C_drewN ?_ _) | (with_reducible refine Kd.C_drew ?_))); (case side4 => exact (Kd.R_reads' HO591.out).2.1); (case side5 => exact far_slice (IsS127.own_ne HI588.out HO591.out (by decide))); rintro e w9 ⟨rfl, hi, hb, hk⟩; refine ⟨_, rfl, ?_⟩; replace HO591 := Aside0.mk (Kd.R_mono (Kd.R_keep (IsS127.apart (show IsS127 w _ g588 t585 t586 t587 from by repeat (first | (with_reducible first | exact HI588.out | apply IsS127.alloc | apply IsS127.drewN | apply IsS127.drew | apply IsS127.set_1 | apply IsS127.set_2) | exact HI588.out)) (by (with_reducible repeat (first | apply Kd.R_alloc | apply Kd.R_drewN | apply Kd.R_drew)); exact HO591.out) (by decide)) hk (fun _ h => h.2)) (fun _ h => h.1)); replace HI588 := Aside0.mk (hi); replace HB := Aside0.mk (hb); (try clear hb hk)) | ((with_reducible refine zf 118 rfl ?_); refine g1 (some 11) Try.func118 #[.pointer (some ⟨g588, 0, none⟩), .int .i64 20] ?_; (with_reducible refine (spec_l01Near.calls g588 t585 t593 t594 20 t595 t596 t597 w _ ?side1 ?side2 A4.out).mono ?_); (case side1 => repeat (first | (with_reducible first | exact HI588.out | apply IsS127.alloc | apply IsS127.drewN | apply IsS127.drew | apply IsS127.set_1 | apply IsS127.set_2) | exact HI588.out)); (case side2 => repeat (first | (with_reducible first | exact HB.out | apply below_alloc | apply pw_below_drewN | apply below_drew1 | refine below_set ?_ (IsS127.ge HI588.out)) | exact HB.out)); rintro e w10 ⟨rfl, hi, hb, hk⟩; refine ⟨_, rfl, ?_⟩; replace HO591 := Aside0.mk (Kd.R_mono (Kd.R_keep (IsS127.apart (show IsS127 w _ g588 t585 t593 t594 from by repeat (first | (with_reducible first | exact HI588.out | apply IsS127.alloc | apply IsS127.drewN | apply IsS127.drew | apply IsS127.set_1 | apply IsS127.set_2) | exact HI588.out)) (by (with_reducible repeat (first | apply Kd.R_alloc | apply Kd.R_drewN | apply Kd.R_drew)); exact HO591.out) (by decide)) hk (fun _ h => h.2)) (fun _ h => h.1)); replace HI588 := Aside0.mk (hi); replace HB := Aside0.mk (hb); (try clear hb hk)))
 go_ret2
 exact ⟨er, by repeat (first | (with_reducible first | exact HB.out | apply below_alloc | apply pw_below_drewN | apply below_drew1 | refine below_set ?_ (IsS127.ge HI588.out)) | exact HB.out)⟩

end Go.Proofs.Ytpmepopagapeiaa.PFnMedians

-- Printed by the kit's print and repaired by a program of this session.
import Derived.Test.YtpmepopagapeiaaPFnMediansx0
import Derived.Test.YtpmepopagapeiaaPFnMediansx2
import Derived.Test.YtpmepopagapeiaaPFnMediansx9
import Derived.Test.YtpmepopagapeiaaPFnMediansx15
import Derived.Test.YtpmepopagapeiaaPFnMediansx17
import Derived.Test.YtpmepopagapeiaaPFnMediansx18
namespace Go.Proofs.Ytpmepopagapeiaa.PFnMedians
open Go.RowKit Go.Proofs.YtpmepopagapeiaaW.PrintWords Go.Proofs.YtpmepopagapeiaaW.PrintLast Go.Proofs.YtpmepopagapeiaaW.PrintMore
attribute [local go_sem] max2_int min2_int max_two min_two max_three min_three max_four min_four
set_option linter.unusedVariables false
set_option linter.unusedSimpArgs false

/-! ### impl_HeightOver: function 59 -/
def impl_HeightOver.j0 : Nat → Int → Bool → Int → Int → Int → Int → Int → Int → Int → Int → Option (Int × Int)
 | 0, _, _, _, _, _, _, _, _, _, _ => none
 | k + 1, x0, x10, x700000, x700001, x700002, x701000, x701001, x701002, x702000, x702001 => if x10 = true then (some (0, 1)) else (if x702001 = 0 then (some (wrap64 (x701000 - x700000), 0)) else ((impl_turning.f k x0 x701000 x701001 x701002 x702000 x702001).bind fun t707 => ((impl_turning.f k x0 x700000 x700001 x700002 x702000 x702001).bind fun t708 => (some (wrap64 ((wrap64 ((wrap64 (x701000 - (wrap64 (2 * t707)))) - x700000)) + (wrap64 (2 * t708))), 0)))))
def impl_HeightOver.f (k : Nat) (a0 : Int) (a1_0 : Int) (a1_1 : Int) (a1_2 : Int) (a2_0 : Int) (a2_1 : Int) (a2_2 : Int) (a3_0 : Int) (a3_1 : Int) : Option (Int × Int) := (impl_areBalls.f k a0 (([(⟨a1_0, a1_1, a1_2⟩ : S27), (⟨a2_0, a2_1, a2_2⟩ : S27)] : List (S27)))).bind fun t705 => (if t705 = true then ((impl_IsEnd.f k a3_0 a3_1).bind fun t706 => (impl_HeightOver.j0 k a0 (!t706) a1_0 a1_1 a1_2 a2_0 a2_1 a2_2 a3_0 a3_1)) else (impl_HeightOver.j0 k a0 true a1_0 a1_1 a1_2 a2_0 a2_1 a2_2 a3_0 a3_1))
def impl_HeightOver.T5 : Bool × List (List Nat × List Nat) := (true, [([], []), ([0], [0]), ([], []), ([], []), ([], []), ([2, 3, 4], [2, 3, 4]), ([5], [5]), ([1, 6], [1, 6]), ([], []), ([8], [8]), ([7, 9], [7, 9]), ([], []), ([], []), ([], []), ([11, 12, 13, 5], [11, 12, 13]), ([14], [14]), ([10, 15], [10, 15]), ([16, 14, 0, 1, 2, 3, 4, 5, 6, 7, 8, 9, 10, 11, 12, 13, 14, 15, 16], [16]), ([17, 0, 1, 2, 3, 4, 5, 6, 7, 8, 9, 10, 11, 12, 13, 14, 15, 16, 17], [])])
def impl_HeightOver.B5 : List Nat := [0, 1, 0, 0, 0, 28, 60, 127, 0, 256, 1023, 0, 0, 0, 14396, 30780, 65535, 131071, 262143]
theorem impl_HeightOver.tab5 : rtab .any (opsOf Try.f59 5) = impl_HeightOver.T5 := by kernel_rfl
theorem impl_HeightOver.bits5 : waitsOk impl_HeightOver.T5.2 impl_HeightOver.B5 = true := by kernel_rfl
set_option maxHeartbeats 8000000 in
set_option maxRecDepth 100000 in
theorem impl_HeightOver.calls (k : Nat) (a0 : Int) (a1_0 : Int) (a1_1 : Int) (a1_2 : Int) (a2_0 : Int) (a2_1 : Int) (a2_2 : Int) (a3_0 : Int) (a3_1 : Int) (r1 : Int) (r2 : Int) (w : World) (h : impl_HeightOver.f k a0 a1_0 a1_1 a1_2 a2_0 a2_1 a2_2 a3_0 a3_1 = some (r1, r2)) :
  Calls Try.prog 59 #[.int .i64 a0, .agg #[.int .i64 a1_0, .int .i64 a1_1, .int .i64 a1_2], .agg #[.int .i64 a2_0, .int .i64 a2_1, .int .i64 a2_2], .agg #[.int .i64 a3_0, .int .i64 a3_1]] w fun e w' => e = .returned (.tuple #[.int .i64 r1, .int .i64 r2]) ∧ Below w.heap.size w w' := by
 have hu27 := Try.underlying27
 have hu63 := Try.underlying63
 have HB := Aside0.mk (Below.refl w.heap.size w)
 unfold impl_HeightOver.f at h
 have H := h
 clear h
 have HC5 := Aside0.mk H
 clear H
 go_enter Try.func59, Try.ntmps59
 go_upto_region 1 with (first | ((with_reducible refine zg 5 rfl ?_); refine z3 5 27 a1_0 a1_1 a1_2 ?_; intro gb699 hg w6 BK699 hb; have GW699 := sg hg; replace HB := bs hb; clear hb hg) | ((with_reducible refine zg 6 rfl ?_); refine z3 6 27 a2_0 a2_1 a2_2 ?_; intro gb700 hg w7 BK700 hb; have GW700 := sg hg; have NB699_700 := nl hg BK699; replace BK699 := bb BK699 hb; replace HB := bs hb; clear hb hg) | ((with_reducible refine zg 7 rfl ?_); refine zb 7 63 #[.int .i64 a3_0, .int .i64 a3_1] ?_; intro gb701 hg w8 BK701 hb; have GW701 := sg hg; have NB699_701 := nl hg BK699; have NB700_701 := nl hg BK700; replace BK699 := bb BK699 hb; replace BK700 := bb BK700 hb; replace HB := bs hb; clear hb hg))
 (try simp only [Act.put, zq, zr, zt])
 go_cut [10] (fun v10 wc => ∃ (kq : Nat) (x10_4 : Bool), v10 = .bool x10_4 ∧ Aside0 (impl_HeightOver.j0 kq a0 x10_4 a1_0 a1_1 a1_2 a2_0 a2_1 a2_2 a3_0 a3_1 = some (r1, r2)) ∧ Aside0 (kq ≤ k) ∧ Aside0 (wc.heap[gb699]? = some (.cells #[.int .i64 a1_0, .int .i64 a1_1, .int .i64 a1_2] 27 (0, 0))) ∧ Aside0 (wc.heap[gb700]? = some (.cells #[.int .i64 a2_0, .int .i64 a2_1, .int .i64 a2_2] 27 (0, 0))) ∧ Aside0 (wc.heap[gb701]? = some (.cells #[.int .i64 a3_0, .int .i64 a3_1] 63 (0, 0))) ∧ Aside0 (Below w.heap.size w wc))
 case first =>
  have H := HC5.out
  clear HC5
  obtain ⟨y702, hy702⟩ : ∃ y_ : List (S27), y_ = (([(⟨a1_0, a1_1, a1_2⟩ : S27), (⟨a2_0, a2_1, a2_2⟩ : S27)] : List (S27))) := ⟨_, rfl⟩
  replace H : ((impl_areBalls.f k a0 y702).bind fun t705 => (if t705 = true then ((impl_IsEnd.f k a3_0 a3_1).bind fun t706 => (impl_HeightOver.j0 k a0 (!t706) a1_0 a1_1 a1_2 a2_0 a2_1 a2_2 a3_0 a3_1)) else (impl_HeightOver.j0 k a0 true a1_0 a1_1 a1_2 a2_0 a2_1 a2_2 a3_0 a3_1))) = some (r1, r2) := by first | exact hy702 ▸ H | exact H
  have Ny702 := Aside0.mk hy702
  clear hy702
  replace H := zi H
  obtain ⟨t705, A9, H⟩ := H
  try dsimp only at H
  by_cases c10 : t705 = true
  ·subst c10
   rw [if_pos rfl] at H
   replace H := zi H
   obtain ⟨t706, A11, H⟩ := H
   try dsimp only at H
   have H' := Aside0.mk H
   clear H
   obtain ⟨hnb12, hnc12⟩ := zn NB699_700
   obtain ⟨hnb13, hnc13⟩ := zn NB699_701
   obtain ⟨hcz14_0, hcz14_1, hcz14_2, hfz14_0, hfz14_1, hfz14_2⟩ := cq3 BK699
   obtain ⟨hnb15, hnc15⟩ := zn NB700_701
   obtain ⟨hcz16_0, hcz16_1, hcz16_2, hfz16_0, hfz16_1, hfz16_2⟩ := cq3 BK700
   go_wp2_with (first | ((with_reducible refine zg 14 rfl ?_); refine Kd.R_lit k27 _ 27 ?hg (N := 14) ?hd (xs := ([(⟨a1_0, a1_1, a1_2⟩ : S27), (⟨a2_0, a2_1, a2_2⟩ : S27)] : List (S27))) (inner := [.int .i64 a1_0, .int .i64 a1_1, .int .i64 a1_2, .int .i64 a2_0, .int .i64 a2_1, .int .i64 a2_2]) (ok := fun _ => True) (okp := fun _ => True) ?hr ?hp (fun _ hk => hk) trivial (Below.refl _ _) (Nat.le_refl _) (by simp) ?_; (case hd => rfl); (case hg => rfl); (case hr => first | (go_simp; done) | (go_simp; rfl)); (case hp => exact (Reps.c3 (show Kd.M k27 _ _ _ (⟨a1_0, a1_1, a1_2⟩ : S27) [.int .i64 a1_0, .int .i64 a1_1, .int .i64 a1_2] from (k27_mkM _ _ _ (⟨a1_0, a1_1, a1_2⟩ : S27) )) (Reps.c3 (show Kd.M k27 _ _ _ (⟨a2_0, a2_1, a2_2⟩ : S27) [.int .i64 a2_0, .int .i64 a2_1, .int .i64 a2_2] from (k27_mkM _ _ _ (⟨a2_0, a2_1, a2_2⟩ : S27) )) (Reps.none _ _)))); intro v703 w17 ho18 hb hg_ hnew_; clear hg_ hnew_; (first | rw [← Ny702.out] at ho18 | (simp only [Int.reduceToNat] at ho18; rw [← Ny702.out] at ho18)); have HO704 := Aside0.mk (Kd.R_lower (Kd.R_newB (Kd.R_newB ho18 (g := gb699) (o := .cells #[.int .i64 a1_0, .int .i64 a1_1, .int .i64 a1_2] 27 (0, 0)) (be BK699)) (g := gb700) (o := .cells #[.int .i64 a2_0, .int .i64 a2_1, .int .i64 a2_2] 27 (0, 0)) (be BK700)) (below_size (bl))); replace BK699 := bb BK699 hb; replace BK700 := bb BK700 hb; replace BK701 := bb BK701 hb; replace HB := bs hb; clear hb ho18; obtain ⟨Ao19, co19, eo19⟩ := Kd.R_slice HO704.out; subst eo19) | ((with_reducible refine zf 83 rfl ?_); refine g1 (some 15) Try.func83 #[.int .i64 a0, .slice Ao19 y702.length co19] ?_; (with_reducible refine (impl_areBalls.calls k a0 _ _ y702 true _ ?side1 ?side2 A9.out).mono ?_); (case side1 => repeat (first | exact (Kd.R_reads' HO704.out).2.2 | (with_reducible refine Kd.C_alloc ?_ _) | (with_reducible refine Kd.C_drewN ?_ _) | (with_reducible refine Kd.C_drew ?_))); (case side2 => exact (Kd.R_reads' HO704.out).2.1); rintro e w20 ⟨rfl, hb⟩; refine ⟨_, rfl, ?_⟩; replace HO704 := Aside0.mk (Kd.R_below (by (with_reducible repeat (first | apply Kd.R_alloc | apply Kd.R_drewN | apply Kd.R_drew)); exact HO704.out) hb); replace BK699 := bb BK699 hb; replace BK700 := bb BK700 hb; replace BK701 := bb BK701 hb; replace HB := bs hb; (try clear hb); obtain ⟨hcz21_0, hcz21_1, hfz21_0, hfz21_1⟩ := z2 BK701) | (go_at_call 122; (with_reducible refine (impl_IsEnd.calls k a3_0 a3_1 t706 _ A11.out).mono ?_); rintro e w22 ⟨rfl, hb⟩; replace HO704 := Aside0.mk (Kd.R_below (by (with_reducible repeat (first | apply Kd.R_alloc | apply Kd.R_drewN | apply Kd.R_drew)); exact HO704.out) hb); replace BK699 := bb BK699 hb; replace BK700 := bb BK700 hb; replace BK701 := bb BK701 hb; replace HB := bs hb; (try clear hb)))
   go_meet
   case rel => exact ⟨_, (!t706), (by first | rfl | (simp; done) | (simp [*]; done)), H', ⟨by first | omega | exact Nat.le_refl _⟩, ⟨be BK699⟩, ⟨be BK700⟩, ⟨be BK701⟩, ⟨bl⟩⟩
  ·replace c10 := Bool.eq_false_iff.mpr c10
   subst c10
   have H1 : (impl_HeightOver.j0 k a0 true a1_0 a1_1 a1_2 a2_0 a2_1 a2_2 a3_0 a3_1) = some (r1, r2) := by rw [if_neg (show ¬ (false = true) by decide)] at H; exact H
   clear H
   have H := H1
   clear H1
   have H' := Aside0.mk H
   clear H
   obtain ⟨hnb23, hnc23⟩ := zn NB699_700
   obtain ⟨hnb24, hnc24⟩ := zn NB699_701
   obtain ⟨hcz25_0, hcz25_1, hcz25_2, hfz25_0, hfz25_1, hfz25_2⟩ := cq3 BK699
   obtain ⟨hnb26, hnc26⟩ := zn NB700_701
   obtain ⟨hcz27_0, hcz27_1, hcz27_2, hfz27_0, hfz27_1, hfz27_2⟩ := cq3 BK700
   go_wp2_with (first | ((with_reducible refine zg 14 rfl ?_); refine Kd.R_lit k27 _ 27 ?hg (N := 14) ?hd (xs := ([(⟨a1_0, a1_1, a1_2⟩ : S27), (⟨a2_0, a2_1, a2_2⟩ : S27)] : List (S27))) (inner := [.int .i64 a1_0, .int .i64 a1_1, .int .i64 a1_2, .int .i64 a2_0, .int .i64 a2_1, .int .i64 a2_2]) (ok := fun _ => True) (okp := fun _ => True) ?hr ?hp (fun _ hk => hk) trivial (Below.refl _ _) (Nat.le_refl _) (by simp) ?_; (case hd => rfl); (case hg => rfl); (case hr => first | (go_simp; done) | (go_simp; rfl)); (case hp => exact (Reps.c3 (show Kd.M k27 _ _ _ (⟨a1_0, a1_1, a1_2⟩ : S27) [.int .i64 a1_0, .int .i64 a1_1, .int .i64 a1_2] from (k27_mkM _ _ _ (⟨a1_0, a1_1, a1_2⟩ : S27) )) (Reps.c3 (show Kd.M k27 _ _ _ (⟨a2_0, a2_1, a2_2⟩ : S27) [.int .i64 a2_0, .int .i64 a2_1, .int .i64 a2_2] from (k27_mkM _ _ _ (⟨a2_0, a2_1, a2_2⟩ : S27) )) (Reps.none _ _)))); intro v703 w28 ho29 hb hg_ hnew_; clear hg_ hnew_; (first | rw [← Ny702.out] at ho29 | (simp only [Int.reduceToNat] at ho29; rw [← Ny702.out] at ho29)); have HO704 := Aside0.mk (Kd.R_lower (Kd.R_newB (Kd.R_newB ho29 (g := gb699) (o := .cells #[.int .i64 a1_0, .int .i64 a1_1, .int .i64 a1_2] 27 (0, 0)) (be BK699)) (g := gb700) (o := .cells #[.int .i64 a2_0, .int .i64 a2_1, .int .i64 a2_2] 27 (0, 0)) (be BK700)) (below_size (bl))); replace BK699 := bb BK699 hb; replace BK700 := bb BK700 hb; replace BK701 := bb BK701 hb; replace HB := bs hb; clear hb ho29; obtain ⟨Ao30, co30, eo30⟩ := Kd.R_slice HO704.out; subst eo30) | ((with_reducible refine zf 83 rfl ?_); refine g1 (some 15) Try.func83 #[.int .i64 a0, .slice Ao30 y702.length co30] ?_; (with_reducible refine (impl_areBalls.calls k a0 _ _ y702 false _ ?side1 ?side2 A9.out).mono ?_); (case side1 => repeat (first | exact (Kd.R_reads' HO704.out).2.2 | (with_reducible refine Kd.C_alloc ?_ _) | (with_reducible refine Kd.C_drewN ?_ _) | (with_reducible refine Kd.C_drew ?_))); (case side2 => exact (Kd.R_reads' HO704.out).2.1); rintro e w31 ⟨rfl, hb⟩; refine ⟨_, rfl, ?_⟩; replace HO704 := Aside0.mk (Kd.R_below (by (with_reducible repeat (first | apply Kd.R_alloc | apply Kd.R_drewN | apply Kd.R_drew)); exact HO704.out) hb); replace BK699 := bb BK699 hb; replace BK700 := bb BK700 hb; replace BK701 := bb BK701 hb; replace HB := bs hb; (try clear hb)))
   go_meet
   case rel => exact ⟨_, (true), (by first | rfl | (simp; done) | (simp [*]; done)), H', ⟨by first | omega | exact Nat.le_refl _⟩, ⟨be BK699⟩, ⟨be BK700⟩, ⟨be BK701⟩, ⟨bl⟩⟩
 case rest =>
  clear HC5
  obtain ⟨kq, x10_4, rfl, HA, HJ4, BK699, BK700, BK701, HB⟩ := hcut
  cases kq with
  | zero => exact absurd HA.out (by simp [impl_HeightOver.j0])
  | succ kj4 =>
   have H := HA.out
   clear HA
   simp only [impl_HeightOver.j0] at H
   by_cases c32 : x10_4 = true
   ·subst c32
    rw [if_pos rfl] at H
    simp only [Option.some.injEq, Prod.mk.injEq] at H
    obtain ⟨rfl, rfl⟩ := H
    go_wp2
    go_ret2
    exact ⟨er, bl⟩
   ·replace c32 := Bool.eq_false_iff.mpr c32
    subst c32
    have H1 : (if a3_1 = 0 then (some (wrap64 (a2_0 - a1_0), 0)) else ((impl_turning.f kj4 a0 a2_0 a2_1 a2_2 a3_0 a3_1).bind fun t707 => ((impl_turning.f kj4 a0 a1_0 a1_1 a1_2 a3_0 a3_1).bind fun t708 => (some (wrap64 ((wrap64 ((wrap64 (a2_0 - (wrap64 (2 * t707)))) - a1_0)) + (wrap64 (2 * t708))), 0))))) = some (r1, r2) := by rw [if_neg (show ¬ (false = true) by decide)] at H; exact H
    clear H
    have H := H1
    clear H1
    replace H := ii H
    rcases H with ⟨c33, H⟩ | ⟨c33, H⟩
    ·obtain ⟨c33b0, c33b1⟩ := zz c33
     clear c33
     simp only [Option.some.injEq, Prod.mk.injEq] at H
     obtain ⟨rfl, rfl⟩ := H
     obtain ⟨hnb34, hnc34⟩ := zm NB699_701
     obtain ⟨hnb35, hnc35⟩ := zm NB700_701
     obtain ⟨hcz36_0, hcz36_1, hfz36_0, hfz36_1⟩ := z2 BK701
     obtain ⟨hnb37, hnc37⟩ := zm NB699_700
     obtain ⟨hcz38_0, hcz38_1, hcz38_2, hfz38_0, hfz38_1, hfz38_2⟩ := cq3 BK700
     obtain ⟨hcz39_0, hcz39_1, hcz39_2, hfz39_0, hfz39_1, hfz39_2⟩ := cq3 BK699
     go_wp2
     go_ret2
     exact ⟨er, bl⟩
    ·obtain ⟨c33b0, c33b1⟩ := zy c33
     replace H := zi H
     obtain ⟨t707, A40, H⟩ := H
     try dsimp only at H
     replace H := zi H
     obtain ⟨t708, A41, H⟩ := H
     try dsimp only at H
     simp only [Option.some.injEq, Prod.mk.injEq] at H
     obtain ⟨rfl, rfl⟩ := H
     obtain ⟨hnb42, hnc42⟩ := zm NB699_701
     obtain ⟨hnb43, hnc43⟩ := zm NB700_701
     obtain ⟨hcz44_0, hcz44_1, hfz44_0, hfz44_1⟩ := z2 BK701
     try go_wp2
     replace BK699 := Aside0.mk (blk_drew BK699.out)
     replace BK700 := Aside0.mk (blk_drew BK700.out)
     replace BK701 := Aside0.mk (blk_drew BK701.out)
     replace HB := Aside0.mk (below_drew1 HB.out)
     refine sw 19 (fun w' => w'.cell? ⟨gb700, 0, none⟩ = some (.int .i64 a2_0) ∧ w'.cell? ⟨gb700, 1, none⟩ = some (.int .i64 a2_1) ∧ w'.cell? ⟨gb700, 2, none⟩ = some (.int .i64 a2_2) ∧ w'.cell? ⟨gb701, 0, none⟩ = some (.int .i64 a3_0) ∧ w'.cell? ⟨gb701, 1, none⟩ = some (.int .i64 a3_1) ∧ w'.cell? ⟨gb699, 0, none⟩ = some (.int .i64 a1_0) ∧ w'.cell? ⟨gb699, 1, none⟩ = some (.int .i64 a1_1) ∧ w'.cell? ⟨gb699, 2, none⟩ = some (.int .i64 a1_2)) impl_HeightOver.tab5 impl_HeightOver.bits5 ⟨(blk_cell BK700.out 0).trans rfl, (blk_cell BK700.out 1).trans rfl, (blk_cell BK700.out 2).trans rfl, (blk_cell BK701.out 0).trans rfl, (blk_cell BK701.out 1).trans rfl, (blk_cell BK699.out 0).trans rfl, (blk_cell BK699.out 1).trans rfl, (blk_cell BK699.out 2).trans rfl⟩ (fun hHeld HT_ HW_ => ?_)
     generalize wc.drew = w45 at BK699 BK700 BK701 HB hHeld ⊢
     refine pu 0 (some 31) (tA 19 1) HT_ ?_
     refine pu 2 (some 33) (tA 19 5) HT_ ?_
     refine pu 8 (some 39) (tA 19 261) HT_ ?_
     refine pu 11 (some 42) (tA 19 2309) HT_ ?_
     refine tk8 1 (some 32) (tA 19 2311) HT_ HW_ hHeld ?_
     refine tk8 3 (some 34) (tA 19 2319) HT_ HW_ hHeld ?_
     refine tk8 4 (some 35) (tA 19 2335) HT_ HW_ hHeld ?_
     refine tk8 9 (some 40) (tA 19 2847) HT_ HW_ hHeld ?_
     refine tk8 12 (some 43) (tA 19 6943) HT_ HW_ hHeld ?_
     refine tk8 13 (some 44) (tA 19 15135) HT_ HW_ hHeld ?_
     refine o1 5 (some 36) (tA 19 15167) HT_ (fun K hK => ?_)
     refine gs Try.func123 #[.int .i64 a0, .agg #[.int .i64 a2_0, .int .i64 a2_1, .int .i64 a2_2], .agg #[.int .i64 a3_0, .int .i64 a3_1]] ?_
     with_reducible refine (impl_turning.calls kj4 a0 a2_0 a2_1 a2_2 a3_0 a3_1 t707 _ A40.out).mono ?_
     rintro e w46 ⟨rfl, hb⟩
     refine ⟨_, rfl, ?_⟩
     replace BK699 := bb BK699 hb
     replace BK700 := bb BK700 hb
     replace BK701 := bb BK701 hb
     replace HB := bs hb
     (try clear hb)
     (try clear hb2)
     (try clear hk)
     (try clear hi)
     refine hK.out _ _ ⟨(blk_cell BK700.out 0).trans rfl, (blk_cell BK700.out 1).trans rfl, (blk_cell BK700.out 2).trans rfl, (blk_cell BK701.out 0).trans rfl, (blk_cell BK701.out 1).trans rfl, (blk_cell BK699.out 0).trans rfl, (blk_cell BK699.out 1).trans rfl, (blk_cell BK699.out 2).trans rfl⟩ (fun hHeld => ?_)
     clear hK K
     refine nm (some 36) ?_
     refine pu 6 (some 37) (tA 19 15231) HT_ ?_
     refine pu 7 (some 38) (tA 19 15359) HT_ ?_
     refine pu 10 (some 41) (tA 19 16383) HT_ ?_
     refine o1 14 (some 45) (tA 19 32767) HT_ (fun K hK => ?_)
     refine gs Try.func123 #[.int .i64 a0, .agg #[.int .i64 a1_0, .int .i64 a1_1, .int .i64 a1_2], .agg #[.int .i64 a3_0, .int .i64 a3_1]] ?_
     with_reducible refine (impl_turning.calls kj4 a0 a1_0 a1_1 a1_2 a3_0 a3_1 t708 _ A41.out).mono ?_
     rintro e w47 ⟨rfl, hb⟩
     refine ⟨_, rfl, ?_⟩
     replace BK699 := bb BK699 hb
     replace BK700 := bb BK700 hb
     replace BK701 := bb BK701 hb
     replace HB := bs hb
     (try clear hb)
     (try clear hb2)
     (try clear hk)
     (try clear hi)
     refine hK.out _ _ ⟨(blk_cell BK700.out 0).trans rfl, (blk_cell BK700.out 1).trans rfl, (blk_cell BK700.out 2).trans rfl, (blk_cell BK701.out 0).trans rfl, (blk_cell BK701.out 1).trans rfl, (blk_cell BK699.out 0).trans rfl, (blk_cell BK699.out 1).trans rfl, (blk_cell BK699.out 2).trans rfl⟩ (fun hHeld => ?_)
     clear hK K
     refine nm (some 45) ?_
     refine pu 15 (some 46) (tA 19 65535) HT_ ?_
     refine pu 16 (some 47) (tA 19 131071) HT_ ?_
     refine pu 17 (some 8) (tA 19 262143) HT_ ?_
     refine pu 18 (some 9) (tA 19 524287) HT_ ?_
     refine done_ (done_of HT_.out (by kernel_rfl)) ?_
     try go_wp2
     go_ret2
     exact ⟨er, bl⟩

/-! ### spec_l01End: function 124 -/
def spec_l01End.f (k : Nat) (a0_0 : Int) (a0_1 : Int) : Option (Bool) := if a0_1 = 0 then (some (a0_0 == 1)) else ((spec_l01In.f a0_1 1 1000000).bind fun t710 => (if t710 = true then ((spec_l01In.f a0_0 (-1000000) 1000000).bind fun t711 => (if t711 = true then ((spec_l01Gcd.f k a0_0 a0_1).bind fun t712 => (some (t712 == 1))) else (some false))) else (some false)))
set_option maxHeartbeats 8000000 in
set_option maxRecDepth 100000 in
theorem spec_l01End.calls (k : Nat) (a0_0 : Int) (a0_1 : Int) (r : Bool) (w : World) (h : spec_l01End.f k a0_0 a0_1 = some r) :
  Calls Try.prog 124 #[.agg #[.int .i64 a0_0, .int .i64 a0_1]] w fun e w' => e = .returned (.bool r) ∧ Below w.heap.size w w' := by
 have hu63 := Try.underlying63
 have HB := Aside0.mk (Below.refl w.heap.size w)
 unfold spec_l01End.f at h
 have H := h
 clear h
 replace H := ii H
 rcases H with ⟨c2, H⟩ | ⟨c2, H⟩
 ·obtain ⟨c2b0, c2b1⟩ := zz c2
  clear c2
  obtain rfl := Option.some.inj H
  go_enter Try.func124, Try.ntmps124
  go_wp2_with (first | ((with_reducible refine zg 1 rfl ?_); refine zb 1 63 #[.int .i64 a0_0, .int .i64 a0_1] ?_; intro gb709 hg w3 BK709 hb; have GW709 := sg hg; replace HB := bs hb; clear hb hg; obtain ⟨hcz4_0, hcz4_1, hfz4_0, hfz4_1⟩ := z2 BK709))
  go_ret
  exact ⟨er, bl⟩
 ·obtain ⟨c2b0, c2b1⟩ := zy c2
  replace H := zi H
  obtain ⟨t710, A5, H⟩ := H
  try dsimp only at H
  by_cases c6 : t710 = true
  ·subst c6
   rw [if_pos rfl] at H
   replace H := zi H
   obtain ⟨t711, A7, H⟩ := H
   try dsimp only at H
   by_cases c8 : t711 = true
   ·subst c8
    rw [if_pos rfl] at H
    replace H := zi H
    obtain ⟨t712, A9, H⟩ := H
    try dsimp only at H
    obtain rfl := Option.some.inj H
    go_enter Try.func124, Try.ntmps124
    go_wp2_with (first | ((with_reducible refine zg 1 rfl ?_); refine zb 1 63 #[.int .i64 a0_0, .int .i64 a0_1] ?_; intro gb709 hg w10 BK709 hb; have GW709 := sg hg; replace HB := bs hb; clear hb hg; obtain ⟨hcz11_0, hcz11_1, hfz11_0, hfz11_1⟩ := z2 BK709) | ((with_reducible refine zf 88 rfl ?_); refine g1 (some 11) Try.func88 #[.int .i64 a0_1, .int .i64 1, .int .i64 1000000] ?_; (with_reducible refine (spec_l01In.calls a0_1 1 1000000 true _ A5.out).mono ?_); rintro e w' ⟨rfl, ⟨nd, rfl⟩⟩; refine ⟨_, rfl, ?_⟩) | (go_at_call 88; (with_reducible refine (spec_l01In.calls a0_0 (-1000000) 1000000 true _ A7.out).mono ?_); rintro e w' ⟨rfl, ⟨nd, rfl⟩⟩) | (go_at_call 149; (with_reducible refine (spec_l01Gcd.calls k a0_0 a0_1 t712 _ A9.out).mono ?_); rintro e w12 ⟨rfl, hb⟩; replace BK709 := bb BK709 hb; replace HB := bs hb; (try clear hb)))
    go_ret
    exact ⟨er, bl⟩
   ·replace c8 := Bool.eq_false_iff.mpr c8
    subst c8
    have H1 : (some false) = some r := by rw [if_neg (show ¬ (false = true) by decide)] at H; exact H
    clear H
    have H := H1
    clear H1
    obtain rfl := Option.some.inj H
    go_enter Try.func124, Try.ntmps124
    go_wp2_with (first | ((with_reducible refine zg 1 rfl ?_); refine zb 1 63 #[.int .i64 a0_0, .int .i64 a0_1] ?_; intro gb709 hg w13 BK709 hb; have GW709 := sg hg; replace HB := bs hb; clear hb hg; obtain ⟨hcz14_0, hcz14_1, hfz14_0, hfz14_1⟩ := z2 BK709) | ((with_reducible refine zf 88 rfl ?_); refine g1 (some 11) Try.func88 #[.int .i64 a0_1, .int .i64 1, .int .i64 1000000] ?_; (with_reducible refine (spec_l01In.calls a0_1 1 1000000 true _ A5.out).mono ?_); rintro e w' ⟨rfl, ⟨nd, rfl⟩⟩; refine ⟨_, rfl, ?_⟩) | (go_at_call 88; (with_reducible refine (spec_l01In.calls a0_0 (-1000000) 1000000 false _ A7.out).mono ?_); rintro e w' ⟨rfl, ⟨nd, rfl⟩⟩))
    go_ret
    exact ⟨er, bl⟩
  ·replace c6 := Bool.eq_false_iff.mpr c6
   subst c6
   have H1 : (some false) = some r := by rw [if_neg (show ¬ (false = true) by decide)] at H; exact H
   clear H
   have H := H1
   clear H1
   obtain rfl := Option.some.inj H
   go_enter Try.func124, Try.ntmps124
   go_wp2_with (first | ((with_reducible refine zg 1 rfl ?_); refine zb 1 63 #[.int .i64 a0_0, .int .i64 a0_1] ?_; intro gb709 hg w15 BK709 hb; have GW709 := sg hg; replace HB := bs hb; clear hb hg; obtain ⟨hcz16_0, hcz16_1, hfz16_0, hfz16_1⟩ := z2 BK709) | ((with_reducible refine zf 88 rfl ?_); refine g1 (some 11) Try.func88 #[.int .i64 a0_1, .int .i64 1, .int .i64 1000000] ?_; (with_reducible refine (spec_l01In.calls a0_1 1 1000000 false _ A5.out).mono ?_); rintro e w' ⟨rfl, ⟨nd, rfl⟩⟩; refine ⟨_, rfl, ?_⟩))
   go_ret
   exact ⟨er, bl⟩

/-! ### spec_l02Meet: function 125 -/
def spec_l02Meet.f (k : Nat) (a0 : Int) (a1_0 : Int) (a1_1 : Int) (a1_2 : Int) (a2_0 : Int) (a2_1 : Int) : Option (Int) := (spec_l01Power.f k a0 a1_2).bind fun t715 => (if (wrap64 ((wrap64 (a2_0 * t715)) - (wrap64 (a1_1 * a2_1)))) = 0 then (some a1_0) else ((spec_l01Val.f k a0 (wrap64 ((wrap64 (a2_0 * t715)) - (wrap64 (a1_1 * a2_1))))).bind fun t716 => ((spec_l01Val.f k a0 a2_1).bind fun t717 => (some (mn a1_0 (wrap64 ((wrap64 (t716 - t717)) - a1_2)))))))
set_option maxHeartbeats 8000000 in
set_option maxRecDepth 100000 in
theorem spec_l02Meet.calls (k : Nat) (a0 : Int) (a1_0 : Int) (a1_1 : Int) (a1_2 : Int) (a2_0 : Int) (a2_1 : Int) (r : Int) (w : World) (h : spec_l02Meet.f k a0 a1_0 a1_1 a1_2 a2_0 a2_1 = some r) :
  Calls Try.prog 125 #[.int .i64 a0, .agg #[.int .i64 a1_0, .int .i64 a1_1, .int .i64 a1_2], .agg #[.int .i64 a2_0, .int .i64 a2_1]] w fun e w' => e = .returned (.int .i64 r) ∧ Below w.heap.size w w' := by
 have hu27 := Try.underlying27
 have hu63 := Try.underlying63
 have HB := Aside0.mk (Below.refl w.heap.size w)
 unfold spec_l02Meet.f at h
 have H := h
 clear h
 replace H := zi H
 obtain ⟨t715, A4, H⟩ := H
 try dsimp only at H
 replace H := ii H
 rcases H with ⟨c5, H⟩ | ⟨c5, H⟩
 ·obtain ⟨c5b0, c5b1⟩ := zz c5
  clear c5
  obtain rfl := Option.some.inj H
  go_enter Try.func125, Try.ntmps125
  go_wp2_with (first | ((with_reducible refine zg 4 rfl ?_); refine z3 4 27 a1_0 a1_1 a1_2 ?_; intro gb713 hg w6 BK713 hb; have GW713 := sg hg; replace HB := bs hb; clear hb hg) | ((with_reducible refine zg 5 rfl ?_); refine zb 5 63 #[.int .i64 a2_0, .int .i64 a2_1] ?_; intro gb714 hg w7 BK714 hb; have GW714 := sg hg; have NB713_714 := nl hg BK713; replace BK713 := bb BK713 hb; replace HB := bs hb; clear hb hg; obtain ⟨hnb8, hnc8⟩ := zn NB713_714; obtain ⟨hcz9_0, hcz9_1, hcz9_2, hfz9_0, hfz9_1, hfz9_2⟩ := cq3 BK713) | (go_at_call 96; (with_reducible refine (spec_l01Power.calls k a0 a1_2 t715 _ A4.out).mono ?_); rintro e w' ⟨rfl, ⟨nd, rfl⟩⟩; (try first | exact zd | exact ze); obtain ⟨hcz10_0, hcz10_1, hfz10_0, hfz10_1⟩ := z2 BK714))
  repeat (go_quiet (first | (go_at_call 96; (with_reducible refine (spec_l01Power.calls k a0 a1_2 t715 _ A4.out).mono ?_); rintro e w' ⟨rfl, ⟨nd, rfl⟩⟩; (try first | exact zd | exact ze); obtain ⟨hcz10_0, hcz10_1, hfz10_0, hfz10_1⟩ := z2 BK714)); try go_wp2_with (first | ((with_reducible refine zg 4 rfl ?_); refine z3 4 27 a1_0 a1_1 a1_2 ?_; intro gb713 hg w6 BK713 hb; have GW713 := sg hg; replace HB := bs hb; clear hb hg) | ((with_reducible refine zg 5 rfl ?_); refine zb 5 63 #[.int .i64 a2_0, .int .i64 a2_1] ?_; intro gb714 hg w7 BK714 hb; have GW714 := sg hg; have NB713_714 := nl hg BK713; replace BK713 := bb BK713 hb; replace HB := bs hb; clear hb hg; obtain ⟨hnb8, hnc8⟩ := zn NB713_714; obtain ⟨hcz9_0, hcz9_1, hcz9_2, hfz9_0, hfz9_1, hfz9_2⟩ := cq3 BK713) | (go_at_call 96; (with_reducible refine (spec_l01Power.calls k a0 a1_2 t715 _ A4.out).mono ?_); rintro e w' ⟨rfl, ⟨nd, rfl⟩⟩; (try first | exact zd | exact ze); obtain ⟨hcz10_0, hcz10_1, hfz10_0, hfz10_1⟩ := z2 BK714)))
  go_ret
  exact ⟨er, bl⟩
 ·obtain ⟨c5b0, c5b1⟩ := zy c5
  replace H := zi H
  obtain ⟨t716, A11, H⟩ := H
  try dsimp only at H
  replace H := zi H
  obtain ⟨t717, A12, H⟩ := H
  try dsimp only at H
  obtain ⟨ji13, hji13⟩ : ∃ j_ : Int, (mn a1_0 (wrap64 ((wrap64 (t716 - t717)) - a1_2))) = j_ := ⟨_, rfl⟩
  replace H : (some ji13) = some r := by first | (rw [hji13] at H; exact H) | (simp only [hji13] at H ⊢; exact H)
  (try rw [hji13] at A4)
  (try rw [hji13] at A11)
  (try rw [hji13] at A12)
  have hji13_ : (if (wrap64 ((wrap64 (t716 - t717)) - a1_2)) < a1_0 then (wrap64 ((wrap64 (t716 - t717)) - a1_2)) else a1_0) = ji13 := hji13
  obtain rfl := Option.some.inj H
  go_enter Try.func125, Try.ntmps125
  go_wp2_with (first | ((with_reducible refine zg 4 rfl ?_); refine z3 4 27 a1_0 a1_1 a1_2 ?_; intro gb713 hg w14 BK713 hb; have GW713 := sg hg; replace HB := bs hb; clear hb hg) | ((with_reducible refine zg 5 rfl ?_); refine zb 5 63 #[.int .i64 a2_0, .int .i64 a2_1] ?_; intro gb714 hg w15 BK714 hb; have GW714 := sg hg; have NB713_714 := nl hg BK713; replace BK713 := bb BK713 hb; replace HB := bs hb; clear hb hg; obtain ⟨hnb16, hnc16⟩ := zn NB713_714; obtain ⟨hcz17_0, hcz17_1, hcz17_2, hfz17_0, hfz17_1, hfz17_2⟩ := cq3 BK713) | (go_at_call 96; (with_reducible refine (spec_l01Power.calls k a0 a1_2 t715 _ A4.out).mono ?_); rintro e w' ⟨rfl, ⟨nd, rfl⟩⟩; (try first | exact zd | exact ze); obtain ⟨hcz18_0, hcz18_1, hfz18_0, hfz18_1⟩ := z2 BK714) | (go_at_call 138; (with_reducible refine (spec_l01Val.calls k a0 (wrap64 ((wrap64 (a2_0 * t715)) - (wrap64 (a1_1 * a2_1)))) t716 _ A11.out).mono ?_); rintro e w' ⟨rfl, ⟨nd, rfl⟩⟩; (try first | exact zd | exact ze)) | (go_at_call 138; (with_reducible refine (spec_l01Val.calls k a0 a2_1 t717 _ A12.out).mono ?_); rintro e w' ⟨rfl, ⟨nd, rfl⟩⟩; (try first | exact zd | exact ze)))
  repeat (go_quiet (first | (go_at_call 96; (with_reducible refine (spec_l01Power.calls k a0 a1_2 t715 _ A4.out).mono ?_); rintro e w' ⟨rfl, ⟨nd, rfl⟩⟩; (try first | exact zd | exact ze); obtain ⟨hcz18_0, hcz18_1, hfz18_0, hfz18_1⟩ := z2 BK714) | (go_at_call 138; (with_reducible refine (spec_l01Val.calls k a0 (wrap64 ((wrap64 (a2_0 * t715)) - (wrap64 (a1_1 * a2_1)))) t716 _ A11.out).mono ?_); rintro e w' ⟨rfl, ⟨nd, rfl⟩⟩; (try first | exact zd | exact ze)) | (go_at_call 138; (with_reducible refine (spec_l01Val.calls k a0 a2_1 t717 _ A12.out).mono ?_); rintro e w' ⟨rfl, ⟨nd, rfl⟩⟩; (try first | exact zd | exact ze))); try go_wp2_with (first | ((with_reducible refine zg 4 rfl ?_); refine z3 4 27 a1_0 a1_1 a1_2 ?_; intro gb713 hg w14 BK713 hb; have GW713 := sg hg; replace HB := bs hb; clear hb hg) | ((with_reducible refine zg 5 rfl ?_); refine zb 5 63 #[.int .i64 a2_0, .int .i64 a2_1] ?_; intro gb714 hg w15 BK714 hb; have GW714 := sg hg; have NB713_714 := nl hg BK713; replace BK713 := bb BK713 hb; replace HB := bs hb; clear hb hg; obtain ⟨hnb16, hnc16⟩ := zn NB713_714; obtain ⟨hcz17_0, hcz17_1, hcz17_2, hfz17_0, hfz17_1, hfz17_2⟩ := cq3 BK713) | (go_at_call 96; (with_reducible refine (spec_l01Power.calls k a0 a1_2 t715 _ A4.out).mono ?_); rintro e w' ⟨rfl, ⟨nd, rfl⟩⟩; (try first | exact zd | exact ze); obtain ⟨hcz18_0, hcz18_1, hfz18_0, hfz18_1⟩ := z2 BK714) | (go_at_call 138; (with_reducible refine (spec_l01Val.calls k a0 (wrap64 ((wrap64 (a2_0 * t715)) - (wrap64 (a1_1 * a2_1)))) t716 _ A11.out).mono ?_); rintro e w' ⟨rfl, ⟨nd, rfl⟩⟩; (try first | exact zd | exact ze)) | (go_at_call 138; (with_reducible refine (spec_l01Val.calls k a0 a2_1 t717 _ A12.out).mono ?_); rintro e w' ⟨rfl, ⟨nd, rfl⟩⟩; (try first | exact zd | exact ze))))
  go_ret
  exact ⟨by first | rfl | (simp [errW_none, errW_some] <;> rfl) | (simp only [← hji13]; first | rfl | (simp [errW_none, errW_some] <;> rfl)) | (simp [*, errW_none, errW_some] <;> rfl), bl⟩

end Go.Proofs.Ytpmepopagapeiaa.PFnMedians

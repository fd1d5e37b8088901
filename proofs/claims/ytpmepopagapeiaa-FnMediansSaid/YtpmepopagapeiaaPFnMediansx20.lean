-- Printed by the kit's print and repaired by a program of this session.
import Derived.Test.YtpmepopagapeiaaPFnMediansx0
import Derived.Test.YtpmepopagapeiaaPFnMediansx2
import Derived.Test.YtpmepopagapeiaaPFnMediansx19
namespace Go.Proofs.Ytpmepopagapeiaa.PFnMedians
open Go.RowKit Go.Proofs.YtpmepopagapeiaaW.PrintWords Go.Proofs.YtpmepopagapeiaaW.PrintLast Go.Proofs.YtpmepopagapeiaaW.PrintMore
attribute [local go_sem] max2_int min2_int max_two min_two max_three min_three max_four min_four
set_option linter.unusedVariables false
set_option linter.unusedSimpArgs false

/-! ### spec_HeightOver: function 60 -/
def spec_HeightOver.j0 : Nat → Int → Bool → Int → Int → Int → Int → Int → Int → Int → Int → Option (Int × Int)
 | 0, _, _, _, _, _, _, _, _, _, _ => none
 | k + 1, x0, x22, x719000, x719001, x719002, x720000, x720001, x720002, x721000, x721001 => if x22 = true then (some (0, 1)) else (if x721001 = 0 then (some (wrap64 (x720000 - x719000), 0)) else ((spec_l02Meet.f k x0 x719000 x719001 x719002 x721000 x721001).bind fun t726 => ((spec_l02Meet.f k x0 x720000 x720001 x720002 x721000 x721001).bind fun t727 => (some (wrap64 ((wrap64 (x720000 - (wrap64 (2 * t727)))) - (wrap64 (x719000 - (wrap64 (2 * t726))))), 0)))))
def spec_HeightOver.f (k : Nat) (a0 : Int) (a1_0 : Int) (a1_1 : Int) (a1_2 : Int) (a2_0 : Int) (a2_1 : Int) (a2_2 : Int) (a3_0 : Int) (a3_1 : Int) : Option (Int × Int) := (spec_l01Code.f k a0 (([(⟨a1_0, a1_1, a1_2⟩ : S27), (⟨a2_0, a2_1, a2_2⟩ : S27)] : List (S27)))).bind fun t724 => (if t724 = 0 then ((spec_l01End.f k a3_0 a3_1).bind fun t725 => (spec_HeightOver.j0 k a0 (!t725) a1_0 a1_1 a1_2 a2_0 a2_1 a2_2 a3_0 a3_1)) else (spec_HeightOver.j0 k a0 true a1_0 a1_1 a1_2 a2_0 a2_1 a2_2 a3_0 a3_1))
def spec_HeightOver.T5 : Bool × List (List Nat × List Nat) := (true, [([], []), ([], []), ([], []), ([0, 1, 2], [0, 1, 2]), ([], []), ([], []), ([], []), ([4, 5, 6, 3], [4, 5, 6]), ([3, 7, 0, 1, 2, 3], [3]), ([7, 8, 0, 1, 2, 3, 4, 5, 6, 7, 8], [7])])
def spec_HeightOver.B5 : List Nat := [0, 0, 0, 7, 0, 0, 0, 127, 255, 511]
theorem spec_HeightOver.tab5 : rtab .any (opsOf Try.f60 5) = spec_HeightOver.T5 := by kernel_rfl
theorem spec_HeightOver.bits5 : waitsOk spec_HeightOver.T5.2 spec_HeightOver.B5 = true := by kernel_rfl
set_option maxHeartbeats 8000000 in
set_option maxRecDepth 100000 in
theorem spec_HeightOver.calls (k : Nat) (a0 : Int) (a1_0 : Int) (a1_1 : Int) (a1_2 : Int) (a2_0 : Int) (a2_1 : Int) (a2_2 : Int) (a3_0 : Int) (a3_1 : Int) (r1 : Int) (r2 : Int) (w : World) (h : spec_HeightOver.f k a0 a1_0 a1_1 a1_2 a2_0 a2_1 a2_2 a3_0 a3_1 = some (r1, r2)) :
  Calls Try.prog 60 #[.int .i64 a0, .agg #[.int .i64 a1_0, .int .i64 a1_1, .int .i64 a1_2], .agg #[.int .i64 a2_0, .int .i64 a2_1, .int .i64 a2_2], .agg #[.int .i64 a3_0, .int .i64 a3_1]] w fun e w' => e = .returned (.tuple #[.int .i64 r1, .int .i64 r2]) ∧ Below w.heap.size w w' := by
 have hu27 := Try.underlying27
 have hu63 := Try.underlying63
 have HB := Aside0.mk (Below.refl w.heap.size w)
 unfold spec_HeightOver.f at h
 have H := h
 clear h
 have HC5 := Aside0.mk H
 clear H
 go_enter Try.func60, Try.ntmps60
 go_upto_region 1 with (first | ((with_reducible refine zg 5 rfl ?_); refine z3 5 27 a1_0 a1_1 a1_2 ?_; intro gb718 hg w6 BK718 hb; have GW718 := sg hg; replace HB := bs hb; clear hb hg) | ((with_reducible refine zg 6 rfl ?_); refine z3 6 27 a2_0 a2_1 a2_2 ?_; intro gb719 hg w7 BK719 hb; have GW719 := sg hg; have NB718_719 := nl hg BK718; replace BK718 := bb BK718 hb; replace HB := bs hb; clear hb hg) | ((with_reducible refine zg 7 rfl ?_); refine zb 7 63 #[.int .i64 a3_0, .int .i64 a3_1] ?_; intro gb720 hg w8 BK720 hb; have GW720 := sg hg; have NB718_720 := nl hg BK718; have NB719_720 := nl hg BK719; replace BK718 := bb BK718 hb; replace BK719 := bb BK719 hb; replace HB := bs hb; clear hb hg))
 (try simp only [Act.put, zq, zr, zt])
 go_cut [22] (fun v22 wc => ∃ (kq : Nat) (x22_4 : Bool), v22 = .bool x22_4 ∧ Aside0 (spec_HeightOver.j0 kq a0 x22_4 a1_0 a1_1 a1_2 a2_0 a2_1 a2_2 a3_0 a3_1 = some (r1, r2)) ∧ Aside0 (kq ≤ k) ∧ Aside0 (wc.heap[gb718]? = some (.cells #[.int .i64 a1_0, .int .i64 a1_1, .int .i64 a1_2] 27 (0, 0))) ∧ Aside0 (wc.heap[gb719]? = some (.cells #[.int .i64 a2_0, .int .i64 a2_1, .int .i64 a2_2] 27 (0, 0))) ∧ Aside0 (wc.heap[gb720]? = some (.cells #[.int .i64 a3_0, .int .i64 a3_1] 63 (0, 0))) ∧ Aside0 (Below w.heap.size w wc))
 case first =>
  have H := HC5.out
  clear HC5
  obtain ⟨y721, hy721⟩ : ∃ y_ : List (S27), y_ = (([(⟨a1_0, a1_1, a1_2⟩ : S27), (⟨a2_0, a2_1, a2_2⟩ : S27)] : List (S27))) := ⟨_, rfl⟩
  replace H : ((spec_l01Code.f k a0 y721).bind fun t724 => (if t724 = 0 then ((spec_l01End.f k a3_0 a3_1).bind fun t725 => (spec_HeightOver.j0 k a0 (!t725) a1_0 a1_1 a1_2 a2_0 a2_1 a2_2 a3_0 a3_1)) else (spec_HeightOver.j0 k a0 true a1_0 a1_1 a1_2 a2_0 a2_1 a2_2 a3_0 a3_1))) = some (r1, r2) := by first | exact hy721 ▸ H | exact H
  have Ny721 := Aside0.mk hy721
  clear hy721
  replace H := zi H
  obtain ⟨t724, A9, H⟩ := H
  try dsimp only at H
  replace H := ii H
  rcases H with ⟨c10, H⟩ | ⟨c10, H⟩
  ·obtain ⟨c10b0, c10b1⟩ := zz c10
   clear c10
   (first | rw [c10b0] | (simp only [i64_w, i32_w]; rw [c10b0]) | skip)
   replace H := zi H
   obtain ⟨t725, A11, H⟩ := H
   try dsimp only at H
   have H' := Aside0.mk H
   clear H
   obtain ⟨hnb12, hnc12⟩ := zn NB718_719
   obtain ⟨hnb13, hnc13⟩ := zn NB718_720
   obtain ⟨hcz14_0, hcz14_1, hcz14_2, hfz14_0, hfz14_1, hfz14_2⟩ := cq3 BK718
   obtain ⟨hnb15, hnc15⟩ := zn NB719_720
   obtain ⟨hcz16_0, hcz16_1, hcz16_2, hfz16_0, hfz16_1, hfz16_2⟩ := cq3 BK719
   go_wp2_with (first | ((with_reducible refine zg 15 rfl ?_); refine Kd.R_lit k27 _ 27 ?hg (N := 15) ?hd (xs := ([(⟨a1_0, a1_1, a1_2⟩ : S27), (⟨a2_0, a2_1, a2_2⟩ : S27)] : List (S27))) (inner := [.int .i64 a1_0, .int .i64 a1_1, .int .i64 a1_2, .int .i64 a2_0, .int .i64 a2_1, .int .i64 a2_2]) (ok := fun _ => True) (okp := fun _ => True) ?hr ?hp (fun _ hk => hk) trivial (Below.refl _ _) (Nat.le_refl _) (by simp) ?_; (case hd => rfl); (case hg => rfl); (case hr => first | (go_simp; done) | (go_simp; rfl)); (case hp => exact (Reps.c3 (show Kd.M k27 _ _ _ (⟨a1_0, a1_1, a1_2⟩ : S27) [.int .i64 a1_0, .int .i64 a1_1, .int .i64 a1_2] from (k27_mkM _ _ _ (⟨a1_0, a1_1, a1_2⟩ : S27) )) (Reps.c3 (show Kd.M k27 _ _ _ (⟨a2_0, a2_1, a2_2⟩ : S27) [.int .i64 a2_0, .int .i64 a2_1, .int .i64 a2_2] from (k27_mkM _ _ _ (⟨a2_0, a2_1, a2_2⟩ : S27) )) (Reps.none _ _)))); intro v722 w17 ho18 hb hg_ hnew_; clear hg_ hnew_; (first | rw [← Ny721.out] at ho18 | (simp only [Int.reduceToNat] at ho18; rw [← Ny721.out] at ho18)); have HO723 := Aside0.mk (Kd.R_lower (Kd.R_newB (Kd.R_newB ho18 (g := gb718) (o := .cells #[.int .i64 a1_0, .int .i64 a1_1, .int .i64 a1_2] 27 (0, 0)) (be BK718)) (g := gb719) (o := .cells #[.int .i64 a2_0, .int .i64 a2_1, .int .i64 a2_2] 27 (0, 0)) (be BK719)) (below_size (bl))); replace BK718 := bb BK718 hb; replace BK719 := bb BK719 hb; replace BK720 := bb BK720 hb; replace HB := bs hb; clear hb ho18; obtain ⟨Ao19, co19, eo19⟩ := Kd.R_slice HO723.out; subst eo19) | ((with_reducible refine zf 81 rfl ?_); refine g1 (some 16) Try.func81 #[.int .i64 a0, .slice Ao19 y721.length co19] ?_; (with_reducible refine (spec_l01Code.calls k a0 _ _ y721 t724 _ ?side1 ?side2 A9.out).mono ?_); (case side1 => repeat (first | exact (Kd.R_reads' HO723.out).2.2 | (with_reducible refine Kd.C_alloc ?_ _) | (with_reducible refine Kd.C_drewN ?_ _) | (with_reducible refine Kd.C_drew ?_))); (case side2 => exact (Kd.R_reads' HO723.out).2.1); rintro e w20 ⟨rfl, hb⟩; refine ⟨_, rfl, ?_⟩; replace HO723 := Aside0.mk (Kd.R_below (by (with_reducible repeat (first | apply Kd.R_alloc | apply Kd.R_drewN | apply Kd.R_drew)); exact HO723.out) hb); replace BK718 := bb BK718 hb; replace BK719 := bb BK719 hb; replace BK720 := bb BK720 hb; replace HB := bs hb; (try clear hb); obtain ⟨hcz21_0, hcz21_1, hfz21_0, hfz21_1⟩ := z2 BK720) | (go_at_call 124; (with_reducible refine (spec_l01End.calls k a3_0 a3_1 t725 _ A11.out).mono ?_); rintro e w22 ⟨rfl, hb⟩; replace HO723 := Aside0.mk (Kd.R_below (by (with_reducible repeat (first | apply Kd.R_alloc | apply Kd.R_drewN | apply Kd.R_drew)); exact HO723.out) hb); replace BK718 := bb BK718 hb; replace BK719 := bb BK719 hb; replace BK720 := bb BK720 hb; replace HB := bs hb; (try clear hb)))
   go_meet
   case rel => exact ⟨_, (!t725), (by first | rfl | (simp; done) | (simp [*]; done)), H', ⟨by first | omega | exact Nat.le_refl _⟩, ⟨be BK718⟩, ⟨be BK719⟩, ⟨be BK720⟩, ⟨bl⟩⟩
  ·obtain ⟨c10b0, c10b1⟩ := zy c10
   (first | rw [c10b0] | (simp only [i64_w, i32_w]; rw [c10b0]) | skip)
   have H' := Aside0.mk H
   clear H
   obtain ⟨hnb23, hnc23⟩ := zn NB718_719
   obtain ⟨hnb24, hnc24⟩ := zn NB718_720
   obtain ⟨hcz25_0, hcz25_1, hcz25_2, hfz25_0, hfz25_1, hfz25_2⟩ := cq3 BK718
   obtain ⟨hnb26, hnc26⟩ := zn NB719_720
   obtain ⟨hcz27_0, hcz27_1, hcz27_2, hfz27_0, hfz27_1, hfz27_2⟩ := cq3 BK719
   go_wp2_with (first | ((with_reducible refine zg 15 rfl ?_); refine Kd.R_lit k27 _ 27 ?hg (N := 15) ?hd (xs := ([(⟨a1_0, a1_1, a1_2⟩ : S27), (⟨a2_0, a2_1, a2_2⟩ : S27)] : List (S27))) (inner := [.int .i64 a1_0, .int .i64 a1_1, .int .i64 a1_2, .int .i64 a2_0, .int .i64 a2_1, .int .i64 a2_2]) (ok := fun _ => True) (okp := fun _ => True) ?hr ?hp (fun _ hk => hk) trivial (Below.refl _ _) (Nat.le_refl _) (by simp) ?_; (case hd => rfl); (case hg => rfl); (case hr => first | (go_simp; done) | (go_simp; rfl)); (case hp => exact (Reps.c3 (show Kd.M k27 _ _ _ (⟨a1_0, a1_1, a1_2⟩ : S27) [.int .i64 a1_0, .int .i64 a1_1, .int .i64 a1_2] from (k27_mkM _ _ _ (⟨a1_0, a1_1, a1_2⟩ : S27) )) (Reps.c3 (show Kd.M k27 _ _ _ (⟨a2_0, a2_1, a2_2⟩ : S27) [.int .i64 a2_0, .int .i64 a2_1, .int .i64 a2_2] from (k27_mkM _ _ _ (⟨a2_0, a2_1, a2_2⟩ : S27) )) (Reps.none _ _)))); intro v722 w28 ho29 hb hg_ hnew_; clear hg_ hnew_; (first | rw [← Ny721.out] at ho29 | (simp only [Int.reduceToNat] at ho29; rw [← Ny721.out] at ho29)); have HO723 := Aside0.mk (Kd.R_lower (Kd.R_newB (Kd.R_newB ho29 (g := gb718) (o := .cells #[.int .i64 a1_0, .int .i64 a1_1, .int .i64 a1_2] 27 (0, 0)) (be BK718)) (g := gb719) (o := .cells #[.int .i64 a2_0, .int .i64 a2_1, .int .i64 a2_2] 27 (0, 0)) (be BK719)) (below_size (bl))); replace BK718 := bb BK718 hb; replace BK719 := bb BK719 hb; replace BK720 := bb BK720 hb; replace HB := bs hb; clear hb ho29; obtain ⟨Ao30, co30, eo30⟩ := Kd.R_slice HO723.out; subst eo30) | ((with_reducible refine zf 81 rfl ?_); refine g1 (some 16) Try.func81 #[.int .i64 a0, .slice Ao30 y721.length co30] ?_; (with_reducible refine (spec_l01Code.calls k a0 _ _ y721 t724 _ ?side1 ?side2 A9.out).mono ?_); (case side1 => repeat (first | exact (Kd.R_reads' HO723.out).2.2 | (with_reducible refine Kd.C_alloc ?_ _) | (with_reducible refine Kd.C_drewN ?_ _) | (with_reducible refine Kd.C_drew ?_))); (case side2 => exact (Kd.R_reads' HO723.out).2.1); rintro e w31 ⟨rfl, hb⟩; refine ⟨_, rfl, ?_⟩; replace HO723 := Aside0.mk (Kd.R_below (by (with_reducible repeat (first | apply Kd.R_alloc | apply Kd.R_drewN | apply Kd.R_drew)); exact HO723.out) hb); replace BK718 := bb BK718 hb; replace BK719 := bb BK719 hb; replace BK720 := bb BK720 hb; replace HB := bs hb; (try clear hb)))
   go_meet
   case rel => exact ⟨_, (true), (by first | rfl | (simp; done) | (simp [*]; done)), H', ⟨by first | omega | exact Nat.le_refl _⟩, ⟨be BK718⟩, ⟨be BK719⟩, ⟨be BK720⟩, ⟨bl⟩⟩
 case rest =>
  clear HC5
  obtain ⟨kq, x22_4, rfl, HA, HJ4, BK718, BK719, BK720, HB⟩ := hcut
  cases kq with
  | zero => exact absurd HA.out (by simp [spec_HeightOver.j0])
  | succ kj4 =>
   have H := HA.out
   clear HA
   simp only [spec_HeightOver.j0] at H
   by_cases c32 : x22_4 = true
   ·subst c32
    rw [if_pos rfl] at H
    simp only [Option.some.injEq, Prod.mk.injEq] at H
    obtain ⟨rfl, rfl⟩ := H
    go_wp2
    go_ret2
    exact ⟨er, bl⟩
   ·replace c32 := Bool.eq_false_iff.mpr c32
    subst c32
    have H1 : (if a3_1 = 0 then (some (wrap64 (a2_0 - a1_0), 0)) else ((spec_l02Meet.f kj4 a0 a1_0 a1_1 a1_2 a3_0 a3_1).bind fun t726 => ((spec_l02Meet.f kj4 a0 a2_0 a2_1 a2_2 a3_0 a3_1).bind fun t727 => (some (wrap64 ((wrap64 (a2_0 - (wrap64 (2 * t727)))) - (wrap64 (a1_0 - (wrap64 (2 * t726))))), 0))))) = some (r1, r2) := by rw [if_neg (show ¬ (false = true) by decide)] at H; exact H
    clear H
    have H := H1
    clear H1
    replace H := ii H
    rcases H with ⟨c33, H⟩ | ⟨c33, H⟩
    ·obtain ⟨c33b0, c33b1⟩ := zz c33
     clear c33
     simp only [Option.some.injEq, Prod.mk.injEq] at H
     obtain ⟨rfl, rfl⟩ := H
     obtain ⟨hnb34, hnc34⟩ := zm NB718_720
     obtain ⟨hnb35, hnc35⟩ := zm NB719_720
     obtain ⟨hcz36_0, hcz36_1, hfz36_0, hfz36_1⟩ := z2 BK720
     obtain ⟨hnb37, hnc37⟩ := zm NB718_719
     obtain ⟨hcz38_0, hcz38_1, hcz38_2, hfz38_0, hfz38_1, hfz38_2⟩ := cq3 BK719
     obtain ⟨hcz39_0, hcz39_1, hcz39_2, hfz39_0, hfz39_1, hfz39_2⟩ := cq3 BK718
     go_wp2
     go_ret2
     exact ⟨er, bl⟩
    ·obtain ⟨c33b0, c33b1⟩ := zy c33
     replace H := zi H
     obtain ⟨t726, A40, H⟩ := H
     try dsimp only at H
     replace H := zi H
     obtain ⟨t727, A41, H⟩ := H
     try dsimp only at H
     simp only [Option.some.injEq, Prod.mk.injEq] at H
     obtain ⟨rfl, rfl⟩ := H
     obtain ⟨hnb42, hnc42⟩ := zm NB718_720
     obtain ⟨hnb43, hnc43⟩ := zm NB719_720
     obtain ⟨hcz44_0, hcz44_1, hfz44_0, hfz44_1⟩ := z2 BK720
     try go_wp2
     replace BK718 := Aside0.mk (blk_drew BK718.out)
     replace BK719 := Aside0.mk (blk_drew BK719.out)
     replace BK720 := Aside0.mk (blk_drew BK720.out)
     replace HB := Aside0.mk (below_drew1 HB.out)
     refine sw 10 (fun w' => w'.cell? ⟨gb718, 0, none⟩ = some (.int .i64 a1_0) ∧ w'.cell? ⟨gb718, 1, none⟩ = some (.int .i64 a1_1) ∧ w'.cell? ⟨gb718, 2, none⟩ = some (.int .i64 a1_2) ∧ w'.cell? ⟨gb720, 0, none⟩ = some (.int .i64 a3_0) ∧ w'.cell? ⟨gb720, 1, none⟩ = some (.int .i64 a3_1) ∧ w'.cell? ⟨gb719, 0, none⟩ = some (.int .i64 a2_0) ∧ w'.cell? ⟨gb719, 1, none⟩ = some (.int .i64 a2_1) ∧ w'.cell? ⟨gb719, 2, none⟩ = some (.int .i64 a2_2)) spec_HeightOver.tab5 spec_HeightOver.bits5 ⟨(blk_cell BK718.out 0).trans rfl, (blk_cell BK718.out 1).trans rfl, (blk_cell BK718.out 2).trans rfl, (blk_cell BK720.out 0).trans rfl, (blk_cell BK720.out 1).trans rfl, (blk_cell BK719.out 0).trans rfl, (blk_cell BK719.out 1).trans rfl, (blk_cell BK719.out 2).trans rfl⟩ (fun hHeld HT_ HW_ => ?_)
     generalize wc.drew = w45 at BK718 BK719 BK720 HB hHeld ⊢
     refine pu 0 (some 31) (tA 10 1) HT_ ?_
     refine pu 4 (some 35) (tA 10 17) HT_ ?_
     refine tk8 1 (some 32) (tA 10 19) HT_ HW_ hHeld ?_
     refine tk8 2 (some 33) (tA 10 23) HT_ HW_ hHeld ?_
     refine tk8 5 (some 36) (tA 10 55) HT_ HW_ hHeld ?_
     refine tk8 6 (some 37) (tA 10 119) HT_ HW_ hHeld ?_
     refine o1 3 (some 34) (tA 10 127) HT_ (fun K hK => ?_)
     refine gs Try.func125 #[.int .i64 a0, .agg #[.int .i64 a1_0, .int .i64 a1_1, .int .i64 a1_2], .agg #[.int .i64 a3_0, .int .i64 a3_1]] ?_
     with_reducible refine (spec_l02Meet.calls kj4 a0 a1_0 a1_1 a1_2 a3_0 a3_1 t726 _ A40.out).mono ?_
     rintro e w46 ⟨rfl, hb⟩
     refine ⟨_, rfl, ?_⟩
     replace BK718 := bb BK718 hb
     replace BK719 := bb BK719 hb
     replace BK720 := bb BK720 hb
     replace HB := bs hb
     (try clear hb)
     (try clear hb2)
     (try clear hk)
     (try clear hi)
     refine hK.out _ _ ⟨(blk_cell BK718.out 0).trans rfl, (blk_cell BK718.out 1).trans rfl, (blk_cell BK718.out 2).trans rfl, (blk_cell BK720.out 0).trans rfl, (blk_cell BK720.out 1).trans rfl, (blk_cell BK719.out 0).trans rfl, (blk_cell BK719.out 1).trans rfl, (blk_cell BK719.out 2).trans rfl⟩ (fun hHeld => ?_)
     clear hK K
     refine nm (some 34) ?_
     refine o1 7 (some 38) (tA 10 255) HT_ (fun K hK => ?_)
     refine gs Try.func125 #[.int .i64 a0, .agg #[.int .i64 a2_0, .int .i64 a2_1, .int .i64 a2_2], .agg #[.int .i64 a3_0, .int .i64 a3_1]] ?_
     with_reducible refine (spec_l02Meet.calls kj4 a0 a2_0 a2_1 a2_2 a3_0 a3_1 t727 _ A41.out).mono ?_
     rintro e w47 ⟨rfl, hb⟩
     refine ⟨_, rfl, ?_⟩
     replace BK718 := bb BK718 hb
     replace BK719 := bb BK719 hb
     replace BK720 := bb BK720 hb
     replace HB := bs hb
     (try clear hb)
     (try clear hb2)
     (try clear hk)
     (try clear hi)
     refine hK.out _ _ ⟨(blk_cell BK718.out 0).trans rfl, (blk_cell BK718.out 1).trans rfl, (blk_cell BK718.out 2).trans rfl, (blk_cell BK720.out 0).trans rfl, (blk_cell BK720.out 1).trans rfl, (blk_cell BK719.out 0).trans rfl, (blk_cell BK719.out 1).trans rfl, (blk_cell BK719.out 2).trans rfl⟩ (fun hHeld => ?_)
     clear hK K
     refine nm (some 38) ?_
     refine pu 8 (some 10) (tA 10 511) HT_ ?_
     refine pu 9 (some 11) (tA 10 1023) HT_ ?_
     refine done_ (done_of HT_.out (by kernel_rfl)) ?_
     obtain ⟨hnb48, hnc48⟩ := zm NB718_719
     obtain ⟨hcz49_0, hcz49_1, hcz49_2, hfz49_0, hfz49_1, hfz49_2⟩ := cq3 BK719
     obtain ⟨hcz50_0, hcz50_1, hcz50_2, hfz50_0, hfz50_1, hfz50_2⟩ := cq3 BK718
     try go_wp2
     go_ret2
     exact ⟨er, bl⟩

end Go.Proofs.Ytpmepopagapeiaa.PFnMedians

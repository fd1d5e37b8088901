-- Printed by the kit's print and repaired by a program of this session.
import Derived.Test.YtpmepopagapeiaaPFnBallsx0
import Derived.Test.YtpmepopagapeiaaPFnBallsx5
import Derived.Test.YtpmepopagapeiaaPFnBallsx11
import Derived.Test.YtpmepopagapeiaaPFnBallsx12
namespace Go.Proofs.Ytpmepopagapeiaa.PFnBalls
open Go.RowKit Go.Proofs.YtpmepopagapeiaaW.PrintWords Go.Proofs.YtpmepopagapeiaaW.PrintLast Go.Proofs.YtpmepopagapeiaaW.PrintMore
attribute [local go_sem] max2_int min2_int max_two min_two max_three min_three max_four min_four
set_option linter.unusedVariables false
set_option linter.unusedSimpArgs false

/-! ### spec_CentreOf: function 68 -/
def spec_CentreOf.f (k : Nat) (a0 : Int) (a1_0 : Int) (a1_1 : Int) (a1_2 : Int) : Option (Int × Int × Int) := (spec_l01Code.f k a0 (([(⟨a1_0, a1_1, a1_2⟩ : S27)] : List (S27)))).bind fun t448 => (if t448 = 0 then ((spec_l01Power.f k a0 a1_2).bind fun t449 => ((spec_l01EndOf.f k a1_1 t449).bind fun bt450 => (if bt450.2.2 = true then (some (bt450.1, bt450.2.1, 0)) else (some (0, 0, 3))))) else (some (0, 0, t448)))
def spec_CentreOf.T4 : Bool × List (List Nat × List Nat) := (true, [([], []), ([0], [0]), ([], []), ([], []), ([3], [3]), ([2, 4], [2, 4]), ([1, 5, 5], [1, 5]), ([6], [6]), ([7], [7]), ([7], [7]), ([], []), ([10, 8, 6, 0, 1, 2, 3, 4, 5, 6, 7, 8, 10], [8, 10]), ([9, 11, 0, 1, 2, 3, 4, 5, 6, 7, 8, 9, 10, 11], [9])])
def spec_CentreOf.B4 : List Nat := [0, 1, 0, 0, 8, 28, 63, 127, 255, 255, 0, 1535, 4095]
theorem spec_CentreOf.tab4 : rtab .any (opsOf Try.f68 4) = spec_CentreOf.T4 := by kernel_rfl
theorem spec_CentreOf.bits4 : waitsOk spec_CentreOf.T4.2 spec_CentreOf.B4 = true := by kernel_rfl
set_option maxHeartbeats 8000000 in
set_option maxRecDepth 100000 in
theorem spec_CentreOf.calls (k : Nat) (a0 : Int) (a1_0 : Int) (a1_1 : Int) (a1_2 : Int) (r1 : Int) (r2 : Int) (r3 : Int) (w : World) (h : spec_CentreOf.f k a0 a1_0 a1_1 a1_2 = some (r1, r2, r3)) :
  Calls Try.prog 68 #[.int .i64 a0, .agg #[.int .i64 a1_0, .int .i64 a1_1, .int .i64 a1_2]] w fun e w' => e = .returned (.tuple #[.agg #[.int .i64 r1, .int .i64 r2], .int .i64 r3]) ∧ Below w.heap.size w w' := by
 have hu27 := Try.underlying27
 have hu63 := Try.underlying63
 have HB := Aside0.mk (Below.refl w.heap.size w)
 unfold spec_CentreOf.f at h
 have H := h
 clear h
 obtain ⟨y445, hy445⟩ : ∃ y_ : List (S27), y_ = (([(⟨a1_0, a1_1, a1_2⟩ : S27)] : List (S27))) := ⟨_, rfl⟩
 replace H : ((spec_l01Code.f k a0 y445).bind fun t448 => (if t448 = 0 then ((spec_l01Power.f k a0 a1_2).bind fun t449 => ((spec_l01EndOf.f k a1_1 t449).bind fun bt450 => (if bt450.2.2 = true then (some (bt450.1, bt450.2.1, 0)) else (some (0, 0, 3))))) else (some (0, 0, t448)))) = some (r1, r2, r3) := by first | exact hy445 ▸ H | exact H
 have Ny445 := Aside0.mk hy445
 clear hy445
 replace H := zi H
 obtain ⟨t448, A3, H⟩ := H
 try dsimp only at H
 replace H := ii H
 rcases H with ⟨c4, H⟩ | ⟨c4, H⟩
 ·obtain ⟨c4b0, c4b1⟩ := zz c4
  clear c4
  replace H := zi H
  obtain ⟨t449, A5, H⟩ := H
  try dsimp only at H
  replace H := zi H
  obtain ⟨⟨t450, t451, t452⟩, A6, H⟩ := H
  try dsimp only at H
  by_cases c7 : t452 = true
  ·subst c7
   rw [if_pos rfl] at H
   simp only [Option.some.injEq, Prod.mk.injEq] at H
   obtain ⟨rfl, rfl, rfl⟩ := H
   go_enter Try.func68, Try.ntmps68
   try go_wp2_with (first | ((with_reducible refine zg 3 rfl ?_); refine z3 3 27 a1_0 a1_1 a1_2 ?_; intro gb443 hg w8 BK443 hb; have GW443 := sg hg; replace HB := bs hb; clear hb hg) | ((with_reducible refine zg 4 rfl ?_); refine zb 4 63 #[.int .i64 0, .int .i64 0] ?_; intro gb444 hg w9 BK444 hb; have GW444 := sg hg; have NB443_444 := nl hg BK443; replace BK443 := bb BK443 hb; replace HB := bs hb; clear hb hg; obtain ⟨hnb10, hnc10⟩ := zn NB443_444; obtain ⟨hcz11_0, hcz11_1, hcz11_2, hfz11_0, hfz11_1, hfz11_2⟩ := cq3 BK443) | ((with_reducible refine zg 11 rfl ?_); refine Kd.R_lit k27 _ 27 ?hg (N := 11) ?hd (xs := ([(⟨a1_0, a1_1, a1_2⟩ : S27)] : List (S27))) (inner := [.int .i64 a1_0, .int .i64 a1_1, .int .i64 a1_2]) (ok := fun _ => True) (okp := fun _ => True) ?hr ?hp (fun _ hk => hk) trivial (Below.refl _ _) (Nat.le_refl _) (by simp) ?_; (case hd => rfl); (case hg => rfl); (case hr => first | (go_simp; done) | (go_simp; rfl)); (case hp => exact (Reps.c3 (show Kd.M k27 _ _ _ (⟨a1_0, a1_1, a1_2⟩ : S27) [.int .i64 a1_0, .int .i64 a1_1, .int .i64 a1_2] from (k27_mkM _ _ _ (⟨a1_0, a1_1, a1_2⟩ : S27) )) (Reps.none _ _))); intro v446 w12 ho13 hb hg_ hnew_; clear hg_ hnew_; (first | rw [← Ny445.out] at ho13 | (simp only [Int.reduceToNat] at ho13; rw [← Ny445.out] at ho13)); have HO447 := Aside0.mk (Kd.R_lower (Kd.R_newB ho13 (g := gb443) (o := .cells #[.int .i64 a1_0, .int .i64 a1_1, .int .i64 a1_2] 27 (0, 0)) (be BK443)) (below_size (bl))); replace BK443 := bb BK443 hb; replace BK444 := bb BK444 hb; replace HB := bs hb; clear hb ho13; obtain ⟨Ao14, co14, eo14⟩ := Kd.R_slice HO447.out; subst eo14) | ((with_reducible refine zf 81 rfl ?_); refine g1 (some 12) Try.func81 #[.int .i64 a0, .slice Ao14 y445.length co14] ?_; (with_reducible refine (spec_l01Code.calls k a0 _ _ y445 t448 _ ?side1 ?side2 A3.out).mono ?_); (case side1 => repeat (first | exact (Kd.R_reads' HO447.out).2.2 | (with_reducible refine Kd.C_alloc ?_ _) | (with_reducible refine Kd.C_drewN ?_ _) | (with_reducible refine Kd.C_drew ?_))); (case side2 => exact (Kd.R_reads' HO447.out).2.1); rintro e w15 ⟨rfl, hb⟩; refine ⟨_, rfl, ?_⟩; replace HO447 := Aside0.mk (Kd.R_below (by (with_reducible repeat (first | apply Kd.R_alloc | apply Kd.R_drewN | apply Kd.R_drew)); exact HO447.out) hb); replace BK443 := bb BK443 hb; replace BK444 := bb BK444 hb; replace HB := bs hb; (try clear hb)))
   replace HO447 := Aside0.mk (Kd.R_drew HO447.out)
   replace BK443 := Aside0.mk (blk_drew BK443.out)
   replace BK444 := Aside0.mk (blk_drew BK444.out)
   replace HB := Aside0.mk (below_drew1 HB.out)
   refine sw 13 (fun w' => w'.cell? ⟨gb443, 0, none⟩ = some (.int .i64 a1_0) ∧ w'.cell? ⟨gb443, 1, none⟩ = some (.int .i64 a1_1) ∧ w'.cell? ⟨gb443, 2, none⟩ = some (.int .i64 a1_2)) spec_CentreOf.tab4 spec_CentreOf.bits4 (e3 BK443) (fun hHeld HT_ HW_ => ?_)
   generalize w15.drew = w16 at HO447 BK443 BK444 HB hHeld ⊢
   refine pu 0 (some 18) (tA 13 1) HT_ ?_
   refine pu 2 (some 20) (tA 13 5) HT_ ?_
   refine pu 3 (some 21) (tA 13 13) HT_ ?_
   refine tk3 1 (some 19) (tA 13 15) HT_ HW_ hHeld ?_
   refine tk3 4 (some 22) (tA 13 31) HT_ HW_ hHeld ?_
   refine join_ (σ := Nat) 2 (tA 13 2047) (fun s_ => [(23, .int .i64 t449), (24, .tuple #[.agg #[.int .i64 t450, .int .i64 t451], .bool true]), (7, .pointer (some ⟨s_, 0, none⟩)), (17, .tuple #[.agg #[.int .i64 t450, .int .i64 t451], .bool true]), (25, .agg #[.int .i64 t450, .int .i64 t451]), (26, .bool true)]) (fun s_ w' => (w'.cell? ⟨gb443, 0, none⟩ = some (.int .i64 a1_0) ∧ w'.cell? ⟨gb443, 1, none⟩ = some (.int .i64 a1_1) ∧ w'.cell? ⟨gb443, 2, none⟩ = some (.int .i64 a1_2)) ∧ (Kd.R k27 27 w' w.heap.size (fun k_ => k_ ≠ gb443) (.slice Ao14 y445.length co14) y445) ∧ (w'.heap[gb443]? = some (.cells #[.int .i64 a1_0, .int .i64 a1_1, .int .i64 a1_2] 27 (0, 0))) ∧ (w'.heap[gb444]? = some (.cells #[.int .i64 0, .int .i64 0] 63 (0, 0))) ∧ (w'.heap[s_]? = some (.cells #[.int .i64 0, .int .i64 0] 63 (0, 0))) ∧ (w.heap.size ≤ s_) ∧ (w.heap.size ≤ s_) ∧ (gb443 ≠ s_) ∧ (s_ ≠ gb443) ∧ (gb444 ≠ s_) ∧ (s_ ≠ gb444) ∧ (Below w.heap.size w w')) ?_ ?_
   rotate_left
   ·intro hCont
    refine two_ (i := 5) (j := 10) (Ni := some 23) (Nj := some 7) (tA 13 63) (tA 13 1055) rfl rfl rfl rfl (two_of HT_.out (by kernel_rfl)) (by decide) (by decide) (fun K hK => ?_) (fun K hK => ?_)
    ·skip
     refine gs Try.func96 #[.int .i64 a0, .int .i64 a1_2] ?_
     with_reducible refine (spec_l01Power.calls k a0 a1_2 t449 _ A5.out).mono ?_
     rintro e w' ⟨rfl, ⟨nd, rfl⟩⟩
     refine ⟨_, rfl, ?_⟩
     refine hK.out _ _ (e3 BK443) (fun hHeld => ?_)
     clear hK K
     refine nm (some 23) ?_
     refine two_ (i := 6) (j := 10) (Ni := some 24) (Nj := some 7) (tA 13 127) (tA 13 1087) rfl rfl rfl rfl (two_of HT_.out (by kernel_rfl)) (by decide) (by decide) (fun K hK => ?_) (fun K hK => ?_)
     ·skip
      refine gs Try.func133 #[.int .i64 a1_1, .int .i64 t449] ?_
      with_reducible refine (spec_l01EndOf.calls k a1_1 t449 t450 t451 true _ A6.out).mono ?_
      rintro e w17 ⟨rfl, hb⟩
      refine ⟨_, rfl, ?_⟩
      replace HO447 := Aside0.mk (Kd.R_below (by (with_reducible repeat (first | apply Kd.R_alloc | apply Kd.R_drewN | apply Kd.R_drew)); exact HO447.out) hb)
      replace BK443 := bb BK443 hb
      replace BK444 := bb BK444 hb
      replace HB := bs hb
      (try clear hb)
      (try clear hb2)
      (try clear hk)
      (try clear hi)
      refine hK.out _ _ (e3 BK443) (fun hHeld => ?_)
      clear hK K
      refine nm (some 24) ?_
      refine pu 7 (some 17) (tA 13 255) HT_ ?_
      refine pu 8 (some 25) (tA 13 511) HT_ ?_
      refine pu 9 (some 26) (tA 13 1023) HT_ ?_
      refine o1 10 (some 7) (tA 13 2047) HT_ (fun K hK => ?_)
      refine box_step ?hg (N := 7) ?hd (cs := #[.int .i64 0, .int .i64 0]) (t := 63) ?hr ?_; (case hd => rfl); (case hg => rfl); (case hr => first | (go_simp; done) | (go_simp; rfl))
      intro gb453 hg w18 hbox hb
      have BK453 := Aside0.mk (hbox)
      have GW453 := Aside0.mk ((by rw [hg]; exact (below_size (bl)) : w.heap.size ≤ gb453))
      have GE453 := Aside0.mk ((by rw [hg]; exact (below_size (bl)) : w.heap.size ≤ gb453))
      have NB443_453 := nl hg BK443
      have NB453_443 := ng hg BK443
      have NB444_453 := nl hg BK444
      have NB453_444 := ng hg BK444
      replace HO447 := Aside0.mk (Kd.R_below (by (with_reducible repeat (first | apply Kd.R_alloc | apply Kd.R_drewN | apply Kd.R_drew)); exact HO447.out) hb)
      replace BK443 := bb BK443 hb
      replace BK444 := bb BK444 hb
      replace HB := bs hb
      clear hb hg
      refine hK.out _ _ (e3 BK443) (fun hHeld => ?_)
      clear hK K
      refine nm (some 7) ?_
      exact norm_ (by simp only [putAll, Act.put, zq, zr, zt]) (hCont (gb453) _ ⟨hHeld, (by (with_reducible repeat (first | apply Kd.R_alloc | apply Kd.R_drewN | apply Kd.R_drew)); exact Kd.R_mono HO447.out (fun _ hk => hk.2)), (be BK443), (be BK444), (be BK453), GW453.out, GE453.out, NB443_453.out, NB453_443.out, NB444_453.out, NB453_444.out, (bl)⟩)
     ·skip
      refine box_step ?hg (N := 7) ?hd (cs := #[.int .i64 0, .int .i64 0]) (t := 63) ?hr ?_; (case hd => rfl); (case hg => rfl); (case hr => first | (go_simp; done) | (go_simp; rfl))
      intro gb453 hg w17 hbox hb
      have BK453 := Aside0.mk (hbox)
      have GW453 := Aside0.mk ((by rw [hg]; exact (below_size (bl)) : w.heap.size ≤ gb453))
      have GE453 := Aside0.mk ((by rw [hg]; exact (below_size (bl)) : w.heap.size ≤ gb453))
      have NB443_453 := nl hg BK443
      have NB453_443 := ng hg BK443
      have NB444_453 := nl hg BK444
      have NB453_444 := ng hg BK444
      replace HO447 := Aside0.mk (Kd.R_below (by (with_reducible repeat (first | apply Kd.R_alloc | apply Kd.R_drewN | apply Kd.R_drew)); exact HO447.out) hb)
      replace BK443 := bb BK443 hb
      replace BK444 := bb BK444 hb
      replace HB := bs hb
      clear hb hg
      refine hK.out _ _ (e3 BK443) (fun hHeld => ?_)
      clear hK K
      refine nm (some 7) ?_
      refine o1 6 (some 24) (tA 13 1151) HT_ (fun K hK => ?_)
      refine gs Try.func133 #[.int .i64 a1_1, .int .i64 t449] ?_
      with_reducible refine (spec_l01EndOf.calls k a1_1 t449 t450 t451 true _ A6.out).mono ?_
      rintro e w18 ⟨rfl, hb⟩
      refine ⟨_, rfl, ?_⟩
      replace HO447 := Aside0.mk (Kd.R_below (by (with_reducible repeat (first | apply Kd.R_alloc | apply Kd.R_drewN | apply Kd.R_drew)); exact HO447.out) hb)
      replace BK443 := bb BK443 hb
      replace BK444 := bb BK444 hb
      replace BK453 := bb BK453 hb
      replace HB := bs hb
      (try clear hb)
      (try clear hb2)
      (try clear hk)
      (try clear hi)
      refine hK.out _ _ (e3 BK443) (fun hHeld => ?_)
      clear hK K
      refine nm (some 24) ?_
      refine pu 7 (some 17) (tA 13 1279) HT_ ?_
      refine pu 8 (some 25) (tA 13 1535) HT_ ?_
      refine pu 9 (some 26) (tA 13 2047) HT_ ?_
      exact norm_ (by simp only [putAll, Act.put, zq, zr, zt]) (hCont (gb453) _ ⟨hHeld, (by (with_reducible repeat (first | apply Kd.R_alloc | apply Kd.R_drewN | apply Kd.R_drew)); exact Kd.R_mono HO447.out (fun _ hk => hk.2)), (be BK443), (be BK444), (be BK453), GW453.out, GE453.out, NB443_453.out, NB453_443.out, NB444_453.out, NB453_444.out, (bl)⟩)
    ·skip
     refine box_step ?hg (N := 7) ?hd (cs := #[.int .i64 0, .int .i64 0]) (t := 63) ?hr ?_; (case hd => rfl); (case hg => rfl); (case hr => first | (go_simp; done) | (go_simp; rfl))
     intro gb453 hg w17 hbox hb
     have BK453 := Aside0.mk (hbox)
     have GW453 := Aside0.mk ((by rw [hg]; exact (below_size (bl)) : w.heap.size ≤ gb453))
     have GE453 := Aside0.mk ((by rw [hg]; exact (below_size (bl)) : w.heap.size ≤ gb453))
     have NB443_453 := nl hg BK443
     have NB453_443 := ng hg BK443
     have NB444_453 := nl hg BK444
     have NB453_444 := ng hg BK444
     replace HO447 := Aside0.mk (Kd.R_below (by (with_reducible repeat (first | apply Kd.R_alloc | apply Kd.R_drewN | apply Kd.R_drew)); exact HO447.out) hb)
     replace BK443 := bb BK443 hb
     replace BK444 := bb BK444 hb
     replace HB := bs hb
     clear hb hg
     refine hK.out _ _ (e3 BK443) (fun hHeld => ?_)
     clear hK K
     refine nm (some 7) ?_
     refine o1 5 (some 23) (tA 13 1087) HT_ (fun K hK => ?_)
     refine gs Try.func96 #[.int .i64 a0, .int .i64 a1_2] ?_
     with_reducible refine (spec_l01Power.calls k a0 a1_2 t449 _ A5.out).mono ?_
     rintro e w' ⟨rfl, ⟨nd, rfl⟩⟩
     refine ⟨_, rfl, ?_⟩
     refine hK.out _ _ (e3 BK443) (fun hHeld => ?_)
     clear hK K
     refine nm (some 23) ?_
     refine o1 6 (some 24) (tA 13 1151) HT_ (fun K hK => ?_)
     refine gs Try.func133 #[.int .i64 a1_1, .int .i64 t449] ?_
     with_reducible refine (spec_l01EndOf.calls k a1_1 t449 t450 t451 true _ A6.out).mono ?_
     rintro e w18 ⟨rfl, hb⟩
     refine ⟨_, rfl, ?_⟩
     replace HO447 := Aside0.mk (Kd.R_below (by (with_reducible repeat (first | apply Kd.R_alloc | apply Kd.R_drewN | apply Kd.R_drew)); exact HO447.out) hb)
     replace BK443 := bb BK443 hb
     replace BK444 := bb BK444 hb
     replace BK453 := bb BK453 hb
     replace HB := bs hb
     (try clear hb)
     (try clear hb2)
     (try clear hk)
     (try clear hi)
     refine hK.out _ _ (e3 BK443) (fun hHeld => ?_)
     clear hK K
     refine nm (some 24) ?_
     refine pu 7 (some 17) (tA 13 1279) HT_ ?_
     refine pu 8 (some 25) (tA 13 1535) HT_ ?_
     refine pu 9 (some 26) (tA 13 2047) HT_ ?_
     exact norm_ (by simp only [putAll, Act.put, zq, zr, zt]) (hCont (gb453) _ ⟨hHeld, (by (with_reducible repeat (first | apply Kd.R_alloc | apply Kd.R_drewN | apply Kd.R_drew)); exact Kd.R_mono HO447.out (fun _ hk => hk.2)), (be BK443), (be BK444), (be BK453), GW453.out, GE453.out, NB443_453.out, NB453_443.out, NB444_453.out, NB453_444.out, (bl)⟩)
   rintro gb453 w19 ⟨hS_, h0_, h1_, h2_, h3_, h4_, h5_, h6_, h7_, h8_, h9_, h10_⟩
   have n0_ : Aside0 (Kd.R k27 27 w19 w.heap.size (fun k_ => k_ ≠ gb443) (.slice Ao14 y445.length co14) y445) := ⟨h0_⟩
   have n1_ : Aside0 (w19.heap[gb443]? = some (.cells #[.int .i64 a1_0, .int .i64 a1_1, .int .i64 a1_2] 27 (0, 0))) := ⟨h1_⟩
   have n2_ : Aside0 (w19.heap[gb444]? = some (.cells #[.int .i64 0, .int .i64 0] 63 (0, 0))) := ⟨h2_⟩
   have n3_ : Aside0 (w19.heap[gb453]? = some (.cells #[.int .i64 0, .int .i64 0] 63 (0, 0))) := ⟨h3_⟩
   have n4_ : Aside0 (w.heap.size ≤ gb453) := ⟨h4_⟩
   have n5_ : Aside0 (w.heap.size ≤ gb453) := ⟨h5_⟩
   have n6_ : Aside0 (gb443 ≠ gb453) := ⟨h6_⟩
   have n7_ : Aside0 (gb453 ≠ gb443) := ⟨h7_⟩
   have n8_ : Aside0 (gb444 ≠ gb453) := ⟨h8_⟩
   have n9_ : Aside0 (gb453 ≠ gb444) := ⟨h9_⟩
   have n10_ : Aside0 (Below w.heap.size w w19) := ⟨h10_⟩
   clear HO447
   clear BK443
   clear BK444
   clear HB
   clear h0_ h1_ h2_ h3_ h4_ h5_ h6_ h7_ h8_ h9_ h10_
   have HO447 := n0_
   have BK443 := n1_
   have BK444 := n2_
   have BK453 := n3_
   have GW453 := n4_
   have GE453 := n5_
   have NB443_453 := n6_
   have NB453_443 := n7_
   have NB444_453 := n8_
   have NB453_444 := n9_
   have HB := n10_
   clear n0_ n1_ n2_ n3_ n4_ n5_ n6_ n7_ n8_ n9_ n10_
   have hHeld : w19.cell? ⟨gb443, 0, none⟩ = some (.int .i64 a1_0) ∧ w19.cell? ⟨gb443, 1, none⟩ = some (.int .i64 a1_1) ∧ w19.cell? ⟨gb443, 2, none⟩ = some (.int .i64 a1_2) := hS_
   refine norm_ (a' := ?_) ?_ ?_
   rotate_left
   ·simp only [putAll, Act.put, zq, zr, zt]
    rfl
   refine o1 11 none (tA 13 4095) HT_ (fun K hK => ?_)
   have hs20 : w19.cell? ⟨gb453, 0, none⟩ = some (.int .i64 0) := (blk_cell BK453.out 0).trans rfl
   have hfs20 := blk_frozen BK453.out 0
   have hns20_0 := NB443_453.out
   have hns20_1 := NB444_453.out
   have hms20_0 := NB453_443.out
   have hms20_1 := NB453_444.out
   have hs21 : w19.cell? ⟨gb453, 1, none⟩ = some (.int .i64 0) := (blk_cell BK453.out 1).trans rfl
   have hfs21 := blk_frozen BK453.out 1
   have hns21_0 := NB443_453.out
   have hns21_1 := NB444_453.out
   have hms21_0 := NB453_443.out
   have hms21_1 := NB453_444.out
   refine skip_ (w1 := ?_) (by rfl) rfl ?_ ?_
   rotate_left
   ·go_simp
    rfl
   refine hK.out _ _ (m3 hHeld (fun e => cf gb453 NB443_453 (cf gb453 NB443_453 e))) (fun hHeld => ?_)
   clear hK K
   refine pu 12 (some 8) (tA 13 8191) HT_ ?_
   refine done_ (done_of HT_.out (by kernel_rfl)) ?_
   have hnb22 := NB453_443.out
   have hnc22 := NB443_453.out
   have hnb23 := NB453_444.out
   have hnc23 := NB444_453.out
   obtain ⟨hcz24_0, hcz24_1, hfz24_0, hfz24_1⟩ := z2 BK453
   obtain ⟨hcz25_0, hcz25_1, hfz25_0, hfz25_1⟩ := z2 BK444
   try go_wp2
   refine bodyPost_ret (results_ct rfl _ _ gb444 63 #[.int .i64 t450, .int .i64 t451] (0, 0) _ rfl (bp) Try.underlying63 rfl (by kernel_rfl)) rfl ?_
   exact ⟨er, bl⟩
  ·replace c7 := Bool.eq_false_iff.mpr c7
   subst c7
   have H1 : (some (0, 0, 3)) = some (r1, r2, r3) := by rw [if_neg (show ¬ (false = true) by decide)] at H; exact H
   clear H
   have H := H1
   clear H1
   simp only [Option.some.injEq, Prod.mk.injEq] at H
   obtain ⟨rfl, rfl, rfl⟩ := H
   go_enter Try.func68, Try.ntmps68
   try go_wp2_with (first | ((with_reducible refine zg 3 rfl ?_); refine z3 3 27 a1_0 a1_1 a1_2 ?_; intro gb443 hg w26 BK443 hb; have GW443 := sg hg; replace HB := bs hb; clear hb hg) | ((with_reducible refine zg 4 rfl ?_); refine zb 4 63 #[.int .i64 0, .int .i64 0] ?_; intro gb444 hg w27 BK444 hb; have GW444 := sg hg; have NB443_444 := nl hg BK443; replace BK443 := bb BK443 hb; replace HB := bs hb; clear hb hg; obtain ⟨hnb28, hnc28⟩ := zn NB443_444; obtain ⟨hcz29_0, hcz29_1, hcz29_2, hfz29_0, hfz29_1, hfz29_2⟩ := cq3 BK443) | ((with_reducible refine zg 11 rfl ?_); refine Kd.R_lit k27 _ 27 ?hg (N := 11) ?hd (xs := ([(⟨a1_0, a1_1, a1_2⟩ : S27)] : List (S27))) (inner := [.int .i64 a1_0, .int .i64 a1_1, .int .i64 a1_2]) (ok := fun _ => True) (okp := fun _ => True) ?hr ?hp (fun _ hk => hk) trivial (Below.refl _ _) (Nat.le_refl _) (by simp) ?_; (case hd => rfl); (case hg => rfl); (case hr => first | (go_simp; done) | (go_simp; rfl)); (case hp => exact (Reps.c3 (show Kd.M k27 _ _ _ (⟨a1_0, a1_1, a1_2⟩ : S27) [.int .i64 a1_0, .int .i64 a1_1, .int .i64 a1_2] from (k27_mkM _ _ _ (⟨a1_0, a1_1, a1_2⟩ : S27) )) (Reps.none _ _))); intro v446 w30 ho31 hb hg_ hnew_; clear hg_ hnew_; (first | rw [← Ny445.out] at ho31 | (simp only [Int.reduceToNat] at ho31; rw [← Ny445.out] at ho31)); have HO447 := Aside0.mk (Kd.R_lower (Kd.R_newB ho31 (g := gb443) (o := .cells #[.int .i64 a1_0, .int .i64 a1_1, .int .i64 a1_2] 27 (0, 0)) (be BK443)) (below_size (bl))); replace BK443 := bb BK443 hb; replace BK444 := bb BK444 hb; replace HB := bs hb; clear hb ho31; obtain ⟨Ao32, co32, eo32⟩ := Kd.R_slice HO447.out; subst eo32) | ((with_reducible refine zf 81 rfl ?_); refine g1 (some 12) Try.func81 #[.int .i64 a0, .slice Ao32 y445.length co32] ?_; (with_reducible refine (spec_l01Code.calls k a0 _ _ y445 t448 _ ?side1 ?side2 A3.out).mono ?_); (case side1 => repeat (first | exact (Kd.R_reads' HO447.out).2.2 | (with_reducible refine Kd.C_alloc ?_ _) | (with_reducible refine Kd.C_drewN ?_ _) | (with_reducible refine Kd.C_drew ?_))); (case side2 => exact (Kd.R_reads' HO447.out).2.1); rintro e w33 ⟨rfl, hb⟩; refine ⟨_, rfl, ?_⟩; replace HO447 := Aside0.mk (Kd.R_below (by (with_reducible repeat (first | apply Kd.R_alloc | apply Kd.R_drewN | apply Kd.R_drew)); exact HO447.out) hb); replace BK443 := bb BK443 hb; replace BK444 := bb BK444 hb; replace HB := bs hb; (try clear hb)))
   replace HO447 := Aside0.mk (Kd.R_drew HO447.out)
   replace BK443 := Aside0.mk (blk_drew BK443.out)
   replace BK444 := Aside0.mk (blk_drew BK444.out)
   replace HB := Aside0.mk (below_drew1 HB.out)
   refine sw 13 (fun w' => w'.cell? ⟨gb443, 0, none⟩ = some (.int .i64 a1_0) ∧ w'.cell? ⟨gb443, 1, none⟩ = some (.int .i64 a1_1) ∧ w'.cell? ⟨gb443, 2, none⟩ = some (.int .i64 a1_2)) spec_CentreOf.tab4 spec_CentreOf.bits4 (e3 BK443) (fun hHeld HT_ HW_ => ?_)
   generalize w33.drew = w34 at HO447 BK443 BK444 HB hHeld ⊢
   refine pu 0 (some 18) (tA 13 1) HT_ ?_
   refine pu 2 (some 20) (tA 13 5) HT_ ?_
   refine pu 3 (some 21) (tA 13 13) HT_ ?_
   refine tk3 1 (some 19) (tA 13 15) HT_ HW_ hHeld ?_
   refine tk3 4 (some 22) (tA 13 31) HT_ HW_ hHeld ?_
   refine join_ (σ := Nat) 2 (tA 13 2047) (fun s_ => [(23, .int .i64 t449), (24, .tuple #[.agg #[.int .i64 t450, .int .i64 t451], .bool false]), (7, .pointer (some ⟨s_, 0, none⟩)), (17, .tuple #[.agg #[.int .i64 t450, .int .i64 t451], .bool false]), (25, .agg #[.int .i64 t450, .int .i64 t451]), (26, .bool false)]) (fun s_ w' => (w'.cell? ⟨gb443, 0, none⟩ = some (.int .i64 a1_0) ∧ w'.cell? ⟨gb443, 1, none⟩ = some (.int .i64 a1_1) ∧ w'.cell? ⟨gb443, 2, none⟩ = some (.int .i64 a1_2)) ∧ (Kd.R k27 27 w' w.heap.size (fun k_ => k_ ≠ gb443) (.slice Ao32 y445.length co32) y445) ∧ (w'.heap[gb443]? = some (.cells #[.int .i64 a1_0, .int .i64 a1_1, .int .i64 a1_2] 27 (0, 0))) ∧ (w'.heap[gb444]? = some (.cells #[.int .i64 0, .int .i64 0] 63 (0, 0))) ∧ (w'.heap[s_]? = some (.cells #[.int .i64 0, .int .i64 0] 63 (0, 0))) ∧ (w.heap.size ≤ s_) ∧ (w.heap.size ≤ s_) ∧ (gb443 ≠ s_) ∧ (s_ ≠ gb443) ∧ (gb444 ≠ s_) ∧ (s_ ≠ gb444) ∧ (Below w.heap.size w w')) ?_ ?_
   rotate_left
   ·intro hCont
    refine two_ (i := 5) (j := 10) (Ni := some 23) (Nj := some 7) (tA 13 63) (tA 13 1055) rfl rfl rfl rfl (two_of HT_.out (by kernel_rfl)) (by decide) (by decide) (fun K hK => ?_) (fun K hK => ?_)
    ·skip
     refine gs Try.func96 #[.int .i64 a0, .int .i64 a1_2] ?_
     with_reducible refine (spec_l01Power.calls k a0 a1_2 t449 _ A5.out).mono ?_
     rintro e w' ⟨rfl, ⟨nd, rfl⟩⟩
     refine ⟨_, rfl, ?_⟩
     refine hK.out _ _ (e3 BK443) (fun hHeld => ?_)
     clear hK K
     refine nm (some 23) ?_
     refine two_ (i := 6) (j := 10) (Ni := some 24) (Nj := some 7) (tA 13 127) (tA 13 1087) rfl rfl rfl rfl (two_of HT_.out (by kernel_rfl)) (by decide) (by decide) (fun K hK => ?_) (fun K hK => ?_)
     ·skip
      refine gs Try.func133 #[.int .i64 a1_1, .int .i64 t449] ?_
      with_reducible refine (spec_l01EndOf.calls k a1_1 t449 t450 t451 false _ A6.out).mono ?_
      rintro e w35 ⟨rfl, hb⟩
      refine ⟨_, rfl, ?_⟩
      replace HO447 := Aside0.mk (Kd.R_below (by (with_reducible repeat (first | apply Kd.R_alloc | apply Kd.R_drewN | apply Kd.R_drew)); exact HO447.out) hb)
      replace BK443 := bb BK443 hb
      replace BK444 := bb BK444 hb
      replace HB := bs hb
      (try clear hb)
      (try clear hb2)
      (try clear hk)
      (try clear hi)
      refine hK.out _ _ (e3 BK443) (fun hHeld => ?_)
      clear hK K
      refine nm (some 24) ?_
      refine pu 7 (some 17) (tA 13 255) HT_ ?_
      refine pu 8 (some 25) (tA 13 511) HT_ ?_
      refine pu 9 (some 26) (tA 13 1023) HT_ ?_
      refine o1 10 (some 7) (tA 13 2047) HT_ (fun K hK => ?_)
      refine box_step ?hg (N := 7) ?hd (cs := #[.int .i64 0, .int .i64 0]) (t := 63) ?hr ?_; (case hd => rfl); (case hg => rfl); (case hr => first | (go_simp; done) | (go_simp; rfl))
      intro gb453 hg w36 hbox hb
      have BK453 := Aside0.mk (hbox)
      have GW453 := Aside0.mk ((by rw [hg]; exact (below_size (bl)) : w.heap.size ≤ gb453))
      have GE453 := Aside0.mk ((by rw [hg]; exact (below_size (bl)) : w.heap.size ≤ gb453))
      have NB443_453 := nl hg BK443
      have NB453_443 := ng hg BK443
      have NB444_453 := nl hg BK444
      have NB453_444 := ng hg BK444
      replace HO447 := Aside0.mk (Kd.R_below (by (with_reducible repeat (first | apply Kd.R_alloc | apply Kd.R_drewN | apply Kd.R_drew)); exact HO447.out) hb)
      replace BK443 := bb BK443 hb
      replace BK444 := bb BK444 hb
      replace HB := bs hb
      clear hb hg
      refine hK.out _ _ (e3 BK443) (fun hHeld => ?_)
      clear hK K
      refine nm (some 7) ?_
      exact norm_ (by simp only [putAll, Act.put, zq, zr, zt]) (hCont (gb453) _ ⟨hHeld, (by (with_reducible repeat (first | apply Kd.R_alloc | apply Kd.R_drewN | apply Kd.R_drew)); exact Kd.R_mono HO447.out (fun _ hk => hk.2)), (be BK443), (be BK444), (be BK453), GW453.out, GE453.out, NB443_453.out, NB453_443.out, NB444_453.out, NB453_444.out, (bl)⟩)
     ·skip
      refine box_step ?hg (N := 7) ?hd (cs := #[.int .i64 0, .int .i64 0]) (t := 63) ?hr ?_; (case hd => rfl); (case hg => rfl); (case hr => first | (go_simp; done) | (go_simp; rfl))
      intro gb453 hg w35 hbox hb
      have BK453 := Aside0.mk (hbox)
      have GW453 := Aside0.mk ((by rw [hg]; exact (below_size (bl)) : w.heap.size ≤ gb453))
      have GE453 := Aside0.mk ((by rw [hg]; exact (below_size (bl)) : w.heap.size ≤ gb453))
      have NB443_453 := nl hg BK443
      have NB453_443 := ng hg BK443
      have NB444_453 := nl hg BK444
      have NB453_444 := ng hg BK444
      replace HO447 := Aside0.mk (Kd.R_below (by (with_reducible repeat (first | apply Kd.R_alloc | apply Kd.R_drewN | apply Kd.R_drew)); exact HO447.out) hb)
      replace BK443 := bb BK443 hb
      replace BK444 := bb BK444 hb
      replace HB := bs hb
      clear hb hg
      refine hK.out _ _ (e3 BK443) (fun hHeld => ?_)
      clear hK K
      refine nm (some 7) ?_
      refine o1 6 (some 24) (tA 13 1151) HT_ (fun K hK => ?_)
      refine gs Try.func133 #[.int .i64 a1_1, .int .i64 t449] ?_
      with_reducible refine (spec_l01EndOf.calls k a1_1 t449 t450 t451 false _ A6.out).mono ?_
      rintro e w36 ⟨rfl, hb⟩
      refine ⟨_, rfl, ?_⟩
      replace HO447 := Aside0.mk (Kd.R_below (by (with_reducible repeat (first | apply Kd.R_alloc | apply Kd.R_drewN | apply Kd.R_drew)); exact HO447.out) hb)
      replace BK443 := bb BK443 hb
      replace BK444 := bb BK444 hb
      replace BK453 := bb BK453 hb
      replace HB := bs hb
      (try clear hb)
      (try clear hb2)
      (try clear hk)
      (try clear hi)
      refine hK.out _ _ (e3 BK443) (fun hHeld => ?_)
      clear hK K
      refine nm (some 24) ?_
      refine pu 7 (some 17) (tA 13 1279) HT_ ?_
      refine pu 8 (some 25) (tA 13 1535) HT_ ?_
      refine pu 9 (some 26) (tA 13 2047) HT_ ?_
      exact norm_ (by simp only [putAll, Act.put, zq, zr, zt]) (hCont (gb453) _ ⟨hHeld, (by (with_reducible repeat (first | apply Kd.R_alloc | apply Kd.R_drewN | apply Kd.R_drew)); exact Kd.R_mono HO447.out (fun _ hk => hk.2)), (be BK443), (be BK444), (be BK453), GW453.out, GE453.out, NB443_453.out, NB453_443.out, NB444_453.out, NB453_444.out, (bl)⟩)
    ·skip
     refine box_step ?hg (N := 7) ?hd (cs := #[.int .i64 0, .int .i64 0]) (t := 63) ?hr ?_; (case hd => rfl); (case hg => rfl); (case hr => first | (go_simp; done) | (go_simp; rfl))
     intro gb453 hg w35 hbox hb
     have BK453 := Aside0.mk (hbox)
     have GW453 := Aside0.mk ((by rw [hg]; exact (below_size (bl)) : w.heap.size ≤ gb453))
     have GE453 := Aside0.mk ((by rw [hg]; exact (below_size (bl)) : w.heap.size ≤ gb453))
     have NB443_453 := nl hg BK443
     have NB453_443 := ng hg BK443
     have NB444_453 := nl hg BK444
     have NB453_444 := ng hg BK444
     replace HO447 := Aside0.mk (Kd.R_below (by (with_reducible repeat (first | apply Kd.R_alloc | apply Kd.R_drewN | apply Kd.R_drew)); exact HO447.out) hb)
     replace BK443 := bb BK443 hb
     replace BK444 := bb BK444 hb
     replace HB := bs hb
     clear hb hg
     refine hK.out _ _ (e3 BK443) (fun hHeld => ?_)
     clear hK K
     refine nm (some 7) ?_
     refine o1 5 (some 23) (tA 13 1087) HT_ (fun K hK => ?_)
     refine gs Try.func96 #[.int .i64 a0, .int .i64 a1_2] ?_
     with_reducible refine (spec_l01Power.calls k a0 a1_2 t449 _ A5.out).mono ?_
     rintro e w' ⟨rfl, ⟨nd, rfl⟩⟩
     refine ⟨_, rfl, ?_⟩
     refine hK.out _ _ (e3 BK443) (fun hHeld => ?_)
     clear hK K
     refine nm (some 23) ?_
     refine o1 6 (some 24) (tA 13 1151) HT_ (fun K hK => ?_)
     refine gs Try.func133 #[.int .i64 a1_1, .int .i64 t449] ?_
     with_reducible refine (spec_l01EndOf.calls k a1_1 t449 t450 t451 false _ A6.out).mono ?_
     rintro e w36 ⟨rfl, hb⟩
     refine ⟨_, rfl, ?_⟩
     replace HO447 := Aside0.mk (Kd.R_below (by (with_reducible repeat (first | apply Kd.R_alloc | apply Kd.R_drewN | apply Kd.R_drew)); exact HO447.out) hb)
     replace BK443 := bb BK443 hb
     replace BK444 := bb BK444 hb
     replace BK453 := bb BK453 hb
     replace HB := bs hb
     (try clear hb)
     (try clear hb2)
     (try clear hk)
     (try clear hi)
     refine hK.out _ _ (e3 BK443) (fun hHeld => ?_)
     clear hK K
     refine nm (some 24) ?_
     refine pu 7 (some 17) (tA 13 1279) HT_ ?_
     refine pu 8 (some 25) (tA 13 1535) HT_ ?_
     refine pu 9 (some 26) (tA 13 2047) HT_ ?_
     exact norm_ (by simp only [putAll, Act.put, zq, zr, zt]) (hCont (gb453) _ ⟨hHeld, (by (with_reducible repeat (first | apply Kd.R_alloc | apply Kd.R_drewN | apply Kd.R_drew)); exact Kd.R_mono HO447.out (fun _ hk => hk.2)), (be BK443), (be BK444), (be BK453), GW453.out, GE453.out, NB443_453.out, NB453_443.out, NB444_453.out, NB453_444.out, (bl)⟩)
   rintro gb453 w37 ⟨hS_, h0_, h1_, h2_, h3_, h4_, h5_, h6_, h7_, h8_, h9_, h10_⟩
   have n0_ : Aside0 (Kd.R k27 27 w37 w.heap.size (fun k_ => k_ ≠ gb443) (.slice Ao32 y445.length co32) y445) := ⟨h0_⟩
   have n1_ : Aside0 (w37.heap[gb443]? = some (.cells #[.int .i64 a1_0, .int .i64 a1_1, .int .i64 a1_2] 27 (0, 0))) := ⟨h1_⟩
   have n2_ : Aside0 (w37.heap[gb444]? = some (.cells #[.int .i64 0, .int .i64 0] 63 (0, 0))) := ⟨h2_⟩
   have n3_ : Aside0 (w37.heap[gb453]? = some (.cells #[.int .i64 0, .int .i64 0] 63 (0, 0))) := ⟨h3_⟩
   have n4_ : Aside0 (w.heap.size ≤ gb453) := ⟨h4_⟩
   have n5_ : Aside0 (w.heap.size ≤ gb453) := ⟨h5_⟩
   have n6_ : Aside0 (gb443 ≠ gb453) := ⟨h6_⟩
   have n7_ : Aside0 (gb453 ≠ gb443) := ⟨h7_⟩
   have n8_ : Aside0 (gb444 ≠ gb453) := ⟨h8_⟩
   have n9_ : Aside0 (gb453 ≠ gb444) := ⟨h9_⟩
   have n10_ : Aside0 (Below w.heap.size w w37) := ⟨h10_⟩
   clear HO447
   clear BK443
   clear BK444
   clear HB
   clear h0_ h1_ h2_ h3_ h4_ h5_ h6_ h7_ h8_ h9_ h10_
   have HO447 := n0_
   have BK443 := n1_
   have BK444 := n2_
   have BK453 := n3_
   have GW453 := n4_
   have GE453 := n5_
   have NB443_453 := n6_
   have NB453_443 := n7_
   have NB444_453 := n8_
   have NB453_444 := n9_
   have HB := n10_
   clear n0_ n1_ n2_ n3_ n4_ n5_ n6_ n7_ n8_ n9_ n10_
   have hHeld : w37.cell? ⟨gb443, 0, none⟩ = some (.int .i64 a1_0) ∧ w37.cell? ⟨gb443, 1, none⟩ = some (.int .i64 a1_1) ∧ w37.cell? ⟨gb443, 2, none⟩ = some (.int .i64 a1_2) := hS_
   refine norm_ (a' := ?_) ?_ ?_
   rotate_left
   ·simp only [putAll, Act.put, zq, zr, zt]
    rfl
   refine o1 11 none (tA 13 4095) HT_ (fun K hK => ?_)
   have hs38 : w37.cell? ⟨gb453, 0, none⟩ = some (.int .i64 0) := (blk_cell BK453.out 0).trans rfl
   have hfs38 := blk_frozen BK453.out 0
   have hns38_0 := NB443_453.out
   have hns38_1 := NB444_453.out
   have hms38_0 := NB453_443.out
   have hms38_1 := NB453_444.out
   have hs39 : w37.cell? ⟨gb453, 1, none⟩ = some (.int .i64 0) := (blk_cell BK453.out 1).trans rfl
   have hfs39 := blk_frozen BK453.out 1
   have hns39_0 := NB443_453.out
   have hns39_1 := NB444_453.out
   have hms39_0 := NB453_443.out
   have hms39_1 := NB453_444.out
   refine skip_ (w1 := ?_) (by rfl) rfl ?_ ?_
   rotate_left
   ·go_simp
    rfl
   refine hK.out _ _ (m3 hHeld (fun e => cf gb453 NB443_453 (cf gb453 NB443_453 e))) (fun hHeld => ?_)
   clear hK K
   refine pu 12 (some 8) (tA 13 8191) HT_ ?_
   refine done_ (done_of HT_.out (by kernel_rfl)) ?_
   have hnb40 := NB444_453.out
   have hnc40 := NB453_444.out
   obtain ⟨hcz41_0, hcz41_1, hfz41_0, hfz41_1⟩ := z2 BK444
   try go_wp2
   refine bodyPost_ret (results_ct rfl _ _ gb444 63 #[.int .i64 0, .int .i64 0] (0, 0) _ rfl (bp) Try.underlying63 rfl (by kernel_rfl)) rfl ?_
   exact ⟨er, bl⟩
 ·obtain ⟨c4b0, c4b1⟩ := zy c4
  simp only [Option.some.injEq, Prod.mk.injEq] at H
  obtain ⟨rfl, rfl, rfl⟩ := H
  go_enter Try.func68, Try.ntmps68
  go_wp2_with (first | ((with_reducible refine zg 3 rfl ?_); refine z3 3 27 a1_0 a1_1 a1_2 ?_; intro gb443 hg w42 BK443 hb; have GW443 := sg hg; replace HB := bs hb; clear hb hg) | ((with_reducible refine zg 4 rfl ?_); refine zb 4 63 #[.int .i64 0, .int .i64 0] ?_; intro gb444 hg w43 BK444 hb; have GW444 := sg hg; have NB443_444 := nl hg BK443; replace BK443 := bb BK443 hb; replace HB := bs hb; clear hb hg; obtain ⟨hnb44, hnc44⟩ := zn NB443_444; obtain ⟨hcz45_0, hcz45_1, hcz45_2, hfz45_0, hfz45_1, hfz45_2⟩ := cq3 BK443) | ((with_reducible refine zg 11 rfl ?_); refine Kd.R_lit k27 _ 27 ?hg (N := 11) ?hd (xs := ([(⟨a1_0, a1_1, a1_2⟩ : S27)] : List (S27))) (inner := [.int .i64 a1_0, .int .i64 a1_1, .int .i64 a1_2]) (ok := fun _ => True) (okp := fun _ => True) ?hr ?hp (fun _ hk => hk) trivial (Below.refl _ _) (Nat.le_refl _) (by simp) ?_; (case hd => rfl); (case hg => rfl); (case hr => first | (go_simp; done) | (go_simp; rfl)); (case hp => exact (Reps.c3 (show Kd.M k27 _ _ _ (⟨a1_0, a1_1, a1_2⟩ : S27) [.int .i64 a1_0, .int .i64 a1_1, .int .i64 a1_2] from (k27_mkM _ _ _ (⟨a1_0, a1_1, a1_2⟩ : S27) )) (Reps.none _ _))); intro v446 w46 ho47 hb hg_ hnew_; clear hg_ hnew_; (first | rw [← Ny445.out] at ho47 | (simp only [Int.reduceToNat] at ho47; rw [← Ny445.out] at ho47)); have HO447 := Aside0.mk (Kd.R_lower (Kd.R_newB ho47 (g := gb443) (o := .cells #[.int .i64 a1_0, .int .i64 a1_1, .int .i64 a1_2] 27 (0, 0)) (be BK443)) (below_size (bl))); replace BK443 := bb BK443 hb; replace BK444 := bb BK444 hb; replace HB := bs hb; clear hb ho47; obtain ⟨Ao48, co48, eo48⟩ := Kd.R_slice HO447.out; subst eo48) | ((with_reducible refine zf 81 rfl ?_); refine g1 (some 12) Try.func81 #[.int .i64 a0, .slice Ao48 y445.length co48] ?_; (with_reducible refine (spec_l01Code.calls k a0 _ _ y445 t448 _ ?side1 ?side2 A3.out).mono ?_); (case side1 => repeat (first | exact (Kd.R_reads' HO447.out).2.2 | (with_reducible refine Kd.C_alloc ?_ _) | (with_reducible refine Kd.C_drewN ?_ _) | (with_reducible refine Kd.C_drew ?_))); (case side2 => exact (Kd.R_reads' HO447.out).2.1); rintro e w49 ⟨rfl, hb⟩; refine ⟨_, rfl, ?_⟩; replace HO447 := Aside0.mk (Kd.R_below (by (with_reducible repeat (first | apply Kd.R_alloc | apply Kd.R_drewN | apply Kd.R_drew)); exact HO447.out) hb); replace BK443 := bb BK443 hb; replace BK444 := bb BK444 hb; replace HB := bs hb; (try clear hb); obtain ⟨hcz50_0, hcz50_1, hfz50_0, hfz50_1⟩ := z2 BK444))
  refine bodyPost_ret (results_ct rfl _ _ gb444 63 #[.int .i64 0, .int .i64 0] (0, 0) _ rfl (bp) Try.underlying63 rfl (by kernel_rfl)) rfl ?_
  exact ⟨er, bl⟩

end Go.Proofs.Ytpmepopagapeiaa.PFnBalls

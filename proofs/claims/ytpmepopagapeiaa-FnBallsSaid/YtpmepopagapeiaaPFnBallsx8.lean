-- Printed by the kit's print and repaired by a program of this session.
import Derived.Test.YtpmepopagapeiaaPFnBallsx0
import Derived.Test.YtpmepopagapeiaaPFnBallsx3
import Derived.Test.YtpmepopagapeiaaPFnBallsx5
import Derived.Test.YtpmepopagapeiaaPFnBallsx7
namespace Go.Proofs.Ytpmepopagapeiaa.PFnBalls
open Go.RowKit Go.Proofs.YtpmepopagapeiaaW.PrintWords Go.Proofs.YtpmepopagapeiaaW.PrintLast Go.Proofs.YtpmepopagapeiaaW.PrintMore
attribute [local go_sem] max2_int min2_int max_two min_two max_three min_three max_four min_four
set_option linter.unusedVariables false
set_option linter.unusedSimpArgs false

/-! ### spec_l01Of: function 97 -/
def spec_l01Of.f (k : Nat) (a0 : Int) (a1 : Int) (a2 : Int) (a3 : Int) : Option (Int × Int × Int × Bool) := (spec_l01In.f a3 (-6) 6).bind fun t267 => (if t267 = true then (if a1 = 0 then (some (a3, 0, 0, true)) else ((spec_l01Val.f k a0 a1).bind fun t269 => ((spec_l01Val.f k a0 a2).bind fun t270 => (if a3 ≤ (wrap64 (t269 - t270)) then (some (a3, 0, 0, true)) else (if (mx (wrap64 (t270 - t269)) 0) > 6 then (some (0, 0, 0, false)) else ((spec_l01Power.f k a0 (wrap64 (a3 + (mx (wrap64 (t270 - t269)) 0)))).bind fun t271 => ((spec_l01Power.f k a0 t269).bind fun t272 => (if t272 = 0 then (none) else ((spec_l01Power.f k a0 t270).bind fun t273 => (if t273 = 0 then (none) else ((spec_l01InvMod.f k (wrap64 (Int.tdiv a2 t273)) t271).bind fun t274 => ((spec_l01MulMod.f (wrap64 (Int.tdiv a1 t272)) t274 t271).bind fun t275 => ((spec_l01Power.f k a0 (mx (wrap64 (t269 - t270)) 0)).bind fun t276 => ((spec_l01MulMod.f t275 t276 t271).bind fun t277 => (some (a3, t277, mx (wrap64 (t270 - t269)) 0, true)))))))))))))))) else (some (0, 0, 0, false)))
set_option maxHeartbeats 8000000 in
set_option maxRecDepth 100000 in
theorem spec_l01Of.calls (k : Nat) (a0 : Int) (a1 : Int) (a2 : Int) (a3 : Int) (r1 : Int) (r2 : Int) (r3 : Int) (r4 : Bool) (w : World) (h : spec_l01Of.f k a0 a1 a2 a3 = some (r1, r2, r3, r4)) :
  Calls Try.prog 97 #[.int .i64 a0, .int .i64 a1, .int .i64 a2, .int .i64 a3] w fun e w' => e = .returned (.tuple #[.agg #[.int .i64 r1, .int .i64 r2, .int .i64 r3], .bool r4]) ∧ Below w.heap.size w w' := by
 have hu27 := Try.underlying27
 have HB := Aside0.mk (Below.refl w.heap.size w)
 unfold spec_l01Of.f at h
 have H := h
 clear h
 replace H := zi H
 obtain ⟨t267, A5, H⟩ := H
 try dsimp only at H
 by_cases c6 : t267 = true
 ·subst c6
  rw [if_pos rfl] at H
  replace H := ii H
  rcases H with ⟨c7, H⟩ | ⟨c7, H⟩
  ·obtain ⟨c7b0, c7b1⟩ := zz c7
   clear c7
   simp only [Option.some.injEq, Prod.mk.injEq] at H
   obtain ⟨rfl, rfl, rfl, rfl⟩ := H
   go_enter Try.func97, Try.ntmps97
   go_wp2_with (first | ((with_reducible refine zg 8 rfl ?_); refine z3 8 27 0 0 0 ?_; intro gb266 hg w8 BK266 hb; have GW266 := sg hg; replace HB := bs hb; clear hb hg) | ((with_reducible refine zf 88 rfl ?_); refine g1 (some 15) Try.func88 #[.int .i64 a3, .int .i64 (-6), .int .i64 6] ?_; (with_reducible refine (spec_l01In.calls a3 (-6) 6 true _ A5.out).mono ?_); rintro e w' ⟨rfl, ⟨nd, rfl⟩⟩; refine ⟨_, rfl, ?_⟩; (try (rw [drewN_self w8]; generalize hq_ : World.drewN w8 _ = w8; have n0_ : Aside0 (w8.heap[gb266]? = some (.cells #[.int .i64 0, .int .i64 0, .int .i64 0] 27 (0, 0))) := ⟨by rw [← hq_]; exact (be BK266)⟩; have n1_ : Aside0 (Below w.heap.size w w8) := ⟨by rw [← hq_]; exact (bl)⟩; clear BK266 HB hq_; have BK266 := n0_; have HB := n1_; clear n0_ n1_))) | ((with_reducible refine zg 10 rfl ?_); refine z3 10 27 0 0 0 ?_; intro gb268 hg w9 BK268 hb; have GW268 := sg hg; have NB266_268 := nl hg BK266; replace BK266 := bb BK266 hb; replace HB := bs hb; clear hb hg; obtain ⟨hnb10, hnc10⟩ := zm NB266_268; obtain ⟨hcz11_0, hcz11_1, hcz11_2, hfz11_0, hfz11_1, hfz11_2⟩ := cq3 BK268; obtain ⟨hcz12_0, hcz12_1, hcz12_2, hfz12_0, hfz12_1, hfz12_2⟩ := cq3 BK266))
   refine bodyPost_ret (results_ct rfl _ _ gb266 27 #[.int .i64 a3, .int .i64 0, .int .i64 0] (0, 0) _ rfl (bp) Try.underlying27 rfl (by kernel_rfl)) rfl ?_
   exact ⟨er, bl⟩
  ·obtain ⟨c7b0, c7b1⟩ := zy c7
   replace H := zi H
   obtain ⟨t269, A13, H⟩ := H
   try dsimp only at H
   replace H := zi H
   obtain ⟨t270, A14, H⟩ := H
   try dsimp only at H
   replace H := ii H
   rcases H with ⟨c15, H⟩ | ⟨c15, H⟩
   ·have c15b0 := decide_eq_true c15
    clear c15
    simp only [Option.some.injEq, Prod.mk.injEq] at H
    obtain ⟨rfl, rfl, rfl, rfl⟩ := H
    go_enter Try.func97, Try.ntmps97
    go_wp2_with (first | ((with_reducible refine zg 8 rfl ?_); refine z3 8 27 0 0 0 ?_; intro gb266 hg w16 BK266 hb; have GW266 := sg hg; replace HB := bs hb; clear hb hg) | ((with_reducible refine zf 88 rfl ?_); refine g1 (some 15) Try.func88 #[.int .i64 a3, .int .i64 (-6), .int .i64 6] ?_; (with_reducible refine (spec_l01In.calls a3 (-6) 6 true _ A5.out).mono ?_); rintro e w' ⟨rfl, ⟨nd, rfl⟩⟩; refine ⟨_, rfl, ?_⟩; (try (rw [drewN_self w16]; generalize hq_ : World.drewN w16 _ = w16; have n0_ : Aside0 (w16.heap[gb266]? = some (.cells #[.int .i64 0, .int .i64 0, .int .i64 0] 27 (0, 0))) := ⟨by rw [← hq_]; exact (be BK266)⟩; have n1_ : Aside0 (Below w.heap.size w w16) := ⟨by rw [← hq_]; exact (bl)⟩; clear BK266 HB hq_; have BK266 := n0_; have HB := n1_; clear n0_ n1_))) | ((with_reducible refine zg 10 rfl ?_); refine z3 10 27 0 0 0 ?_; intro gb268 hg w17 BK268 hb; have GW268 := sg hg; have NB266_268 := nl hg BK266; replace BK266 := bb BK266 hb; replace HB := bs hb; clear hb hg; obtain ⟨hnb18, hnc18⟩ := zm NB266_268; obtain ⟨hcz19_0, hcz19_1, hcz19_2, hfz19_0, hfz19_1, hfz19_2⟩ := cq3 BK268) | ((with_reducible refine zf 138 rfl ?_); refine g1 (some 25) Try.func138 #[.int .i64 a0, .int .i64 a1] ?_; (with_reducible refine (spec_l01Val.calls k a0 a1 t269 _ A13.out).mono ?_); rintro e w' ⟨rfl, ⟨nd, rfl⟩⟩; refine ⟨_, rfl, ?_⟩) | ((with_reducible refine zf 138 rfl ?_); refine g1 (some 28) Try.func138 #[.int .i64 a0, .int .i64 a2] ?_; (with_reducible refine (spec_l01Val.calls k a0 a2 t270 _ A14.out).mono ?_); rintro e w' ⟨rfl, ⟨nd, rfl⟩⟩; refine ⟨_, rfl, ?_⟩; have hqz1 : ∀ n, (World.drewN (World.setCell (World.setCell (World.setCell w17 ⟨gb268, 0, none⟩ (.int .i64 a3)) ⟨gb268, 1, none⟩ (.int .i64 0)) ⟨gb268, 2, none⟩ (.int .i64 0)) n).cell? ⟨gb268, 1, none⟩ = some (.int .i64 0) := (by intro n; go_simp); have hqz2 : ∀ n, (World.drewN (World.setCell (World.setCell (World.setCell w17 ⟨gb268, 0, none⟩ (.int .i64 a3)) ⟨gb268, 1, none⟩ (.int .i64 0)) ⟨gb268, 2, none⟩ (.int .i64 0)) n).cell? ⟨gb268, 2, none⟩ = some (.int .i64 0) := (by intro n; go_simp); obtain ⟨hcz20_0, hcz20_1, hcz20_2, hfz20_0, hfz20_1, hfz20_2⟩ := cq3 BK266))
    refine bodyPost_ret (results_ct rfl _ _ gb266 27 #[.int .i64 a3, .int .i64 0, .int .i64 0] (0, 0) _ rfl (bp) Try.underlying27 rfl (by kernel_rfl)) rfl ?_
    exact ⟨er, bl⟩
   ·have c15b0 := decide_eq_false c15
    clear c15
    obtain ⟨ji21, hji21⟩ : ∃ j_ : Int, (mx (wrap64 (t270 - t269)) 0) = j_ := ⟨_, rfl⟩
    replace H : (if (ji21) > 6 then (some (0, 0, 0, false)) else ((spec_l01Power.f k a0 (wrap64 (a3 + (ji21)))).bind fun t271 => ((spec_l01Power.f k a0 t269).bind fun t272 => (if t272 = 0 then (none) else ((spec_l01Power.f k a0 t270).bind fun t273 => (if t273 = 0 then (none) else ((spec_l01InvMod.f k (wrap64 (Int.tdiv a2 t273)) t271).bind fun t274 => ((spec_l01MulMod.f (wrap64 (Int.tdiv a1 t272)) t274 t271).bind fun t275 => ((spec_l01Power.f k a0 (mx (wrap64 (t269 - t270)) 0)).bind fun t276 => ((spec_l01MulMod.f t275 t276 t271).bind fun t277 => (some (a3, t277, ji21, true)))))))))))) = some (r1, r2, r3, r4) := by first | (rw [hji21] at H; exact H) | (simp only [hji21] at H ⊢; exact H)
    (try rw [hji21] at A5)
    (try rw [hji21] at A13)
    (try rw [hji21] at A14)
    (try (have hji21l : 0 ≤ ji21 := by (rw [← hji21]; unfold mx; (repeat' split) <;> omega)))
    (try (have hji21m : 0 ≤ ji21 := by omega))
    have hji21_ : (if (wrap64 (t270 - t269)) < 0 then 0 else (wrap64 (t270 - t269))) = ji21 := hji21
    replace H := ii H
    rcases H with ⟨c22, H⟩ | ⟨c22, H⟩
    ·have c22b0 := decide_eq_true c22
     clear c22
     simp only [Option.some.injEq, Prod.mk.injEq] at H
     obtain ⟨rfl, rfl, rfl, rfl⟩ := H
     go_enter Try.func97, Try.ntmps97
     go_wp2_with (first | ((with_reducible refine zg 8 rfl ?_); refine z3 8 27 0 0 0 ?_; intro gb266 hg w23 BK266 hb; have GW266 := sg hg; replace HB := bs hb; clear hb hg) | ((with_reducible refine zf 88 rfl ?_); refine g1 (some 15) Try.func88 #[.int .i64 a3, .int .i64 (-6), .int .i64 6] ?_; (with_reducible refine (spec_l01In.calls a3 (-6) 6 true _ A5.out).mono ?_); rintro e w' ⟨rfl, ⟨nd, rfl⟩⟩; refine ⟨_, rfl, ?_⟩; (try (rw [drewN_self w23]; generalize hq_ : World.drewN w23 _ = w23; have n0_ : Aside0 (w23.heap[gb266]? = some (.cells #[.int .i64 0, .int .i64 0, .int .i64 0] 27 (0, 0))) := ⟨by rw [← hq_]; exact (be BK266)⟩; have n1_ : Aside0 (Below w.heap.size w w23) := ⟨by rw [← hq_]; exact (bl)⟩; clear BK266 HB hq_; have BK266 := n0_; have HB := n1_; clear n0_ n1_))) | ((with_reducible refine zg 10 rfl ?_); refine z3 10 27 0 0 0 ?_; intro gb268 hg w24 BK268 hb; have GW268 := sg hg; have NB266_268 := nl hg BK266; replace BK266 := bb BK266 hb; replace HB := bs hb; clear hb hg; obtain ⟨hnb25, hnc25⟩ := zm NB266_268; obtain ⟨hcz26_0, hcz26_1, hcz26_2, hfz26_0, hfz26_1, hfz26_2⟩ := cq3 BK268) | ((with_reducible refine zf 138 rfl ?_); refine g1 (some 25) Try.func138 #[.int .i64 a0, .int .i64 a1] ?_; (with_reducible refine (spec_l01Val.calls k a0 a1 t269 _ A13.out).mono ?_); rintro e w' ⟨rfl, ⟨nd, rfl⟩⟩; refine ⟨_, rfl, ?_⟩) | ((with_reducible refine zf 138 rfl ?_); refine g1 (some 28) Try.func138 #[.int .i64 a0, .int .i64 a2] ?_; (with_reducible refine (spec_l01Val.calls k a0 a2 t270 _ A14.out).mono ?_); rintro e w' ⟨rfl, ⟨nd, rfl⟩⟩; refine ⟨_, rfl, ?_⟩; have hqz1 : ∀ n, (World.drewN (World.setCell (World.setCell (World.setCell w24 ⟨gb268, 0, none⟩ (.int .i64 a3)) ⟨gb268, 1, none⟩ (.int .i64 0)) ⟨gb268, 2, none⟩ (.int .i64 0)) n).cell? ⟨gb268, 1, none⟩ = some (.int .i64 0) := (by intro n; go_simp); have hqz2 : ∀ n, (World.drewN (World.setCell (World.setCell (World.setCell w24 ⟨gb268, 0, none⟩ (.int .i64 a3)) ⟨gb268, 1, none⟩ (.int .i64 0)) ⟨gb268, 2, none⟩ (.int .i64 0)) n).cell? ⟨gb268, 2, none⟩ = some (.int .i64 0) := (by intro n; go_simp); obtain ⟨hcz27_0, hcz27_1, hcz27_2, hfz27_0, hfz27_1, hfz27_2⟩ := cq3 BK266))
     refine bodyPost_ret (results_ct rfl _ _ gb266 27 #[.int .i64 0, .int .i64 0, .int .i64 0] (0, 0) _ rfl (bp) Try.underlying27 rfl (by kernel_rfl)) rfl ?_
     exact ⟨by first | rfl | (simp [errW_none, errW_some] <;> rfl) | (simp only [← hji21]; first | rfl | (simp [errW_none, errW_some] <;> rfl)) | (simp [*, errW_none, errW_some] <;> rfl), bl⟩
    ·have c22b0 := decide_eq_false c22
     clear c22
     replace H := zi H
     obtain ⟨t271, A28, H⟩ := H
     try dsimp only at H
     replace H := zi H
     obtain ⟨t272, A29, H⟩ := H
     try dsimp only at H
     replace H := ii H
     rcases H with ⟨c30, H⟩ | ⟨c30, H⟩
     ·exact absurd H (by simp)
     ·obtain ⟨c30b0, c30b1⟩ := zy c30
      replace H := zi H
      obtain ⟨t273, A31, H⟩ := H
      try dsimp only at H
      replace H := ii H
      rcases H with ⟨c32, H⟩ | ⟨c32, H⟩
      ·exact absurd H (by simp)
      ·obtain ⟨c32b0, c32b1⟩ := zy c32
       replace H := zi H
       obtain ⟨t274, A33, H⟩ := H
       try dsimp only at H
       replace H := zi H
       obtain ⟨t275, A34, H⟩ := H
       try dsimp only at H
       obtain ⟨ji35, hji35⟩ : ∃ j_ : Int, (mx (wrap64 (t269 - t270)) 0) = j_ := ⟨_, rfl⟩
       replace H : ((spec_l01Power.f k a0 (ji35)).bind fun t276 => ((spec_l01MulMod.f t275 t276 t271).bind fun t277 => (some (a3, t277, ji21, true)))) = some (r1, r2, r3, r4) := by first | (rw [hji35] at H; exact H) | (simp only [hji35] at H ⊢; exact H)
       (try rw [hji35] at A5)
       (try rw [hji35] at A13)
       (try rw [hji35] at A14)
       (try rw [hji35] at A28)
       (try rw [hji35] at A29)
       (try rw [hji35] at A31)
       (try rw [hji35] at A33)
       (try rw [hji35] at A34)
       (try (have hji35l : 0 ≤ ji35 := by (rw [← hji35]; unfold mx; (repeat' split) <;> omega)))
       (try (have hji35m : 0 ≤ ji35 := by omega))
       have hji35_ : (if (wrap64 (t269 - t270)) < 0 then 0 else (wrap64 (t269 - t270))) = ji35 := hji35
       replace H := zi H
       obtain ⟨t276, A36, H⟩ := H
       try dsimp only at H
       replace H := zi H
       obtain ⟨t277, A37, H⟩ := H
       try dsimp only at H
       simp only [Option.some.injEq, Prod.mk.injEq] at H
       obtain ⟨rfl, rfl, rfl, rfl⟩ := H
       go_enter Try.func97, Try.ntmps97
       go_wp2_with (first | ((with_reducible refine zg 8 rfl ?_); refine z3 8 27 0 0 0 ?_; intro gb266 hg w38 BK266 hb; have GW266 := sg hg; replace HB := bs hb; clear hb hg) | ((with_reducible refine zf 88 rfl ?_); refine g1 (some 15) Try.func88 #[.int .i64 a3, .int .i64 (-6), .int .i64 6] ?_; (with_reducible refine (spec_l01In.calls a3 (-6) 6 true _ A5.out).mono ?_); rintro e w' ⟨rfl, ⟨nd, rfl⟩⟩; refine ⟨_, rfl, ?_⟩; (try (rw [drewN_self w38]; generalize hq_ : World.drewN w38 _ = w38; have n0_ : Aside0 (w38.heap[gb266]? = some (.cells #[.int .i64 0, .int .i64 0, .int .i64 0] 27 (0, 0))) := ⟨by rw [← hq_]; exact (be BK266)⟩; have n1_ : Aside0 (Below w.heap.size w w38) := ⟨by rw [← hq_]; exact (bl)⟩; clear BK266 HB hq_; have BK266 := n0_; have HB := n1_; clear n0_ n1_))) | ((with_reducible refine zg 10 rfl ?_); refine z3 10 27 0 0 0 ?_; intro gb268 hg w39 BK268 hb; have GW268 := sg hg; have NB266_268 := nl hg BK266; replace BK266 := bb BK266 hb; replace HB := bs hb; clear hb hg; obtain ⟨hnb40, hnc40⟩ := zm NB266_268; obtain ⟨hcz41_0, hcz41_1, hcz41_2, hfz41_0, hfz41_1, hfz41_2⟩ := cq3 BK268) | ((with_reducible refine zf 138 rfl ?_); refine g1 (some 25) Try.func138 #[.int .i64 a0, .int .i64 a1] ?_; (with_reducible refine (spec_l01Val.calls k a0 a1 t269 _ A13.out).mono ?_); rintro e w' ⟨rfl, ⟨nd, rfl⟩⟩; refine ⟨_, rfl, ?_⟩) | ((with_reducible refine zf 138 rfl ?_); refine g1 (some 28) Try.func138 #[.int .i64 a0, .int .i64 a2] ?_; (with_reducible refine (spec_l01Val.calls k a0 a2 t270 _ A14.out).mono ?_); rintro e w' ⟨rfl, ⟨nd, rfl⟩⟩; refine ⟨_, rfl, ?_⟩; have hqz1 : ∀ n, (World.drewN (World.setCell (World.setCell (World.setCell w39 ⟨gb268, 0, none⟩ (.int .i64 a3)) ⟨gb268, 1, none⟩ (.int .i64 0)) ⟨gb268, 2, none⟩ (.int .i64 0)) n).cell? ⟨gb268, 1, none⟩ = some (.int .i64 0) := (by intro n; go_simp); have hqz2 : ∀ n, (World.drewN (World.setCell (World.setCell (World.setCell w39 ⟨gb268, 0, none⟩ (.int .i64 a3)) ⟨gb268, 1, none⟩ (.int .i64 0)) ⟨gb268, 2, none⟩ (.int .i64 0)) n).cell? ⟨gb268, 2, none⟩ = some (.int .i64 0) := (by intro n; go_simp)) | ((with_reducible refine zf 96 rfl ?_); refine goesL_ (some 49) rfl rfl Try.func96 (by kernel_rfl) rfl #[.int .i64 a0, .int .i64 (wrap64 (a3 + (ji21)))] rfl (by (try simp only [List.map_toArray, List.map_cons, List.map_nil]); first | done | (simp only [hji21]; rfl) | rfl | (simp only [List.length_drop, List.length_take]; rfl)) ?_; (with_reducible refine (spec_l01Power.calls k a0 (wrap64 (a3 + (ji21))) t271 _ A28.out).mono ?_); rintro e w' ⟨rfl, ⟨nd, rfl⟩⟩; refine ⟨_, rfl, ?_⟩) | ((with_reducible refine zf 96 rfl ?_); refine g1 (some 53) Try.func96 #[.int .i64 a0, .int .i64 t269] ?_; (with_reducible refine (spec_l01Power.calls k a0 t269 t272 _ A29.out).mono ?_); rintro e w' ⟨rfl, ⟨nd, rfl⟩⟩; refine ⟨_, rfl, ?_⟩) | ((with_reducible refine zf 96 rfl ?_); refine g1 (some 58) Try.func96 #[.int .i64 a0, .int .i64 t270] ?_; (with_reducible refine (spec_l01Power.calls k a0 t270 t273 _ A31.out).mono ?_); rintro e w' ⟨rfl, ⟨nd, rfl⟩⟩; refine ⟨_, rfl, ?_⟩) | ((with_reducible refine zf 144 rfl ?_); refine g1 (some 63) Try.func144 #[.int .i64 (wrap64 (Int.tdiv a2 t273)), .int .i64 t271] ?_; (with_reducible refine (spec_l01InvMod.calls k (wrap64 (Int.tdiv a2 t273)) t271 t274 _ A33.out).mono ?_); rintro e w' ⟨rfl, ⟨nd, rfl⟩⟩; refine ⟨_, rfl, ?_⟩) | ((with_reducible refine zf 143 rfl ?_); refine g1 (some 65) Try.func143 #[.int .i64 (wrap64 (Int.tdiv a1 t272)), .int .i64 t274, .int .i64 t271] ?_; (with_reducible refine (spec_l01MulMod.calls (wrap64 (Int.tdiv a1 t272)) t274 t271 t275 _ A34.out).mono ?_); rintro e w' ⟨rfl, ⟨nd, rfl⟩⟩; refine ⟨_, rfl, ?_⟩) | ((with_reducible refine zf 96 rfl ?_); refine goesL_ (some 71) rfl rfl Try.func96 (by kernel_rfl) rfl #[.int .i64 a0, .int .i64 ji35] rfl (by (try simp only [List.map_toArray, List.map_cons, List.map_nil]); first | done | (simp only [hji35]; rfl) | rfl | (simp only [List.length_drop, List.length_take]; rfl)) ?_; (with_reducible refine (spec_l01Power.calls k a0 ji35 t276 _ A36.out).mono ?_); rintro e w' ⟨rfl, ⟨nd, rfl⟩⟩; refine ⟨_, rfl, ?_⟩) | ((with_reducible refine zf 143 rfl ?_); refine g1 (some 73) Try.func143 #[.int .i64 t275, .int .i64 t276, .int .i64 t271] ?_; (with_reducible refine (spec_l01MulMod.calls t275 t276 t271 t277 _ A37.out).mono ?_); rintro e w' ⟨rfl, ⟨nd, rfl⟩⟩; refine ⟨_, rfl, ?_⟩; obtain ⟨hcz42_0, hcz42_1, hcz42_2, hfz42_0, hfz42_1, hfz42_2⟩ := cq3 BK266))
       refine bodyPost_ret (results_ct rfl _ _ gb266 27 #[.int .i64 a3, .int .i64 t277, .int .i64 ji21] (0, 0) _ rfl (bp) Try.underlying27 rfl (by kernel_rfl)) rfl ?_
       exact ⟨by first | rfl | (simp [errW_none, errW_some] <;> rfl) | (simp only [← hji21, ← hji35]; first | rfl | (simp [errW_none, errW_some] <;> rfl)) | (simp [*, errW_none, errW_some] <;> rfl), bl⟩
 ·replace c6 := Bool.eq_false_iff.mpr c6
  subst c6
  have H1 : (some (0, 0, 0, false)) = some (r1, r2, r3, r4) := by rw [if_neg (show ¬ (false = true) by decide)] at H; exact H
  clear H
  have H := H1
  clear H1
  simp only [Option.some.injEq, Prod.mk.injEq] at H
  obtain ⟨rfl, rfl, rfl, rfl⟩ := H
  go_enter Try.func97, Try.ntmps97
  go_wp2_with (first | ((with_reducible refine zg 8 rfl ?_); refine z3 8 27 0 0 0 ?_; intro gb266 hg w43 BK266 hb; have GW266 := sg hg; replace HB := bs hb; clear hb hg) | ((with_reducible refine zf 88 rfl ?_); refine g1 (some 15) Try.func88 #[.int .i64 a3, .int .i64 (-6), .int .i64 6] ?_; (with_reducible refine (spec_l01In.calls a3 (-6) 6 false _ A5.out).mono ?_); rintro e w' ⟨rfl, ⟨nd, rfl⟩⟩; refine ⟨_, rfl, ?_⟩; (try (rw [drewN_self w43]; generalize hq_ : World.drewN w43 _ = w43; have n0_ : Aside0 (w43.heap[gb266]? = some (.cells #[.int .i64 0, .int .i64 0, .int .i64 0] 27 (0, 0))) := ⟨by rw [← hq_]; exact (be BK266)⟩; have n1_ : Aside0 (Below w.heap.size w w43) := ⟨by rw [← hq_]; exact (bl)⟩; clear BK266 HB hq_; have BK266 := n0_; have HB := n1_; clear n0_ n1_)); obtain ⟨hcz44_0, hcz44_1, hcz44_2, hfz44_0, hfz44_1, hfz44_2⟩ := cq3 BK266))
  refine bodyPost_ret (results_ct rfl _ _ gb266 27 #[.int .i64 0, .int .i64 0, .int .i64 0] (0, 0) _ rfl (bp) Try.underlying27 rfl (by kernel_rfl)) rfl ?_
  exact ⟨er, bl⟩

/-! ### spec_l01Prime: function 120 -/
def spec_l01Prime.f (a0 : Int) : Option (Bool) := if a0 = 2 then (some true) else (if a0 = 3 then (some true) else (if a0 = 5 then (some true) else (some (a0 == 7))))
set_option maxHeartbeats 8000000 in
set_option maxRecDepth 100000 in
theorem spec_l01Prime.calls (a0 : Int) (r : Bool) (w : World) (h : spec_l01Prime.f a0 = some r) :
  Calls Try.prog 120 #[.int .i64 a0] w fun e w' => e = .returned (.bool r) ∧ Drawn0 w w' := by
 unfold spec_l01Prime.f at h
 have H := h
 clear h
 replace H := ii H
 rcases H with ⟨c2, H⟩ | ⟨c2, H⟩
 ·obtain ⟨c2b0, c2b1⟩ := zz c2
  clear c2
  obtain rfl := Option.some.inj H
  go_enter Try.func120, Try.ntmps120
  go_wp2
  go_ret
  exact zx
 ·obtain ⟨c2b0, c2b1⟩ := zy c2
  replace H := ii H
  rcases H with ⟨c3, H⟩ | ⟨c3, H⟩
  ·obtain ⟨c3b0, c3b1⟩ := zz c3
   clear c3
   obtain rfl := Option.some.inj H
   go_enter Try.func120, Try.ntmps120
   go_wp2
   go_ret
   exact zx
  ·obtain ⟨c3b0, c3b1⟩ := zy c3
   replace H := ii H
   rcases H with ⟨c4, H⟩ | ⟨c4, H⟩
   ·obtain ⟨c4b0, c4b1⟩ := zz c4
    clear c4
    obtain rfl := Option.some.inj H
    go_enter Try.func120, Try.ntmps120
    go_wp2
    go_ret
    exact zx
   ·obtain ⟨c4b0, c4b1⟩ := zy c4
    obtain rfl := Option.some.inj H
    go_enter Try.func120, Try.ntmps120
    go_wp2
    go_ret
    exact zx

/-! ### spec_l01Fraction: function 129 -/
def spec_l01Fraction.j0 : Nat → Int → Bool → Option (Int)
 | 0, _, _ => none
 | k + 1, x1, x7 => if x7 = true then (some 2) else (if x1 = 0 then (some 5) else (some 0))
def spec_l01Fraction.f (k : Nat) (a0 : Int) (a1 : Int) (a2 : Int) : Option (Int) := (spec_l01In.f a0 (wrap64 (-a2)) a2).bind fun t278 => (if t278 = true then ((spec_l01In.f a1 (wrap64 (-a2)) a2).bind fun t279 => (spec_l01Fraction.j0 k a1 (!t279))) else (spec_l01Fraction.j0 k a1 true))
set_option maxHeartbeats 8000000 in
set_option maxRecDepth 100000 in
theorem spec_l01Fraction.calls (k : Nat) (a0 : Int) (a1 : Int) (a2 : Int) (r : Int) (w : World) (h : spec_l01Fraction.f k a0 a1 a2 = some r) :
  Calls Try.prog 129 #[.int .i64 a0, .int .i64 a1, .int .i64 a2] w fun e w' => e = .returned (.int .i64 r) ∧ Drawn0 w w' := by
 unfold spec_l01Fraction.f at h
 have H := h
 clear h
 have HC4 := Aside0.mk H
 clear H
 go_enter Try.func129, Try.ntmps129
 go_upto_region 1 with (fail)
 go_cut [7] (fun v7 wc => ∃ (kq : Nat) (x7_3 : Bool), v7 = .bool x7_3 ∧ Aside0 (spec_l01Fraction.j0 kq a1 x7_3 = some r) ∧ Aside0 (kq ≤ k) ∧ Drawn0 w wc)
 case first =>
  have H := HC4.out
  clear HC4
  replace H := zi H
  obtain ⟨t278, A5, H⟩ := H
  try dsimp only at H
  by_cases c6 : t278 = true
  ·subst c6
   rw [if_pos rfl] at H
   replace H := zi H
   obtain ⟨t279, A7, H⟩ := H
   try dsimp only at H
   have H' := Aside0.mk H
   clear H
   go_wp2_with (first | ((with_reducible refine zf 88 rfl ?_); refine g1 (some 12) Try.func88 #[.int .i64 a0, .int .i64 (wrap64 (-a2)), .int .i64 a2] ?_; (with_reducible refine (spec_l01In.calls a0 (wrap64 (-a2)) a2 true _ A5.out).mono ?_); rintro e w' ⟨rfl, ⟨nd, rfl⟩⟩; refine ⟨_, rfl, ?_⟩) | (go_at_call 88; (with_reducible refine (spec_l01In.calls a1 (wrap64 (-a2)) a2 t279 _ A7.out).mono ?_); rintro e w' ⟨rfl, ⟨nd, rfl⟩⟩))
   go_meet
   case rel => exact ⟨_, (!t279), (by first | rfl | (simp; done) | (simp [*]; done)), H', ⟨by first | omega | exact Nat.le_refl _⟩, by repeat (first | exact Drawn0.refl _ | apply Drawn0.step)⟩
  ·replace c6 := Bool.eq_false_iff.mpr c6
   subst c6
   have H1 : (spec_l01Fraction.j0 k a1 true) = some r := by rw [if_neg (show ¬ (false = true) by decide)] at H; exact H
   clear H
   have H := H1
   clear H1
   have H' := Aside0.mk H
   clear H
   go_wp2_with (first | ((with_reducible refine zf 88 rfl ?_); refine g1 (some 12) Try.func88 #[.int .i64 a0, .int .i64 (wrap64 (-a2)), .int .i64 a2] ?_; (with_reducible refine (spec_l01In.calls a0 (wrap64 (-a2)) a2 false _ A5.out).mono ?_); rintro e w' ⟨rfl, ⟨nd, rfl⟩⟩; refine ⟨_, rfl, ?_⟩))
   go_meet
   case rel => exact ⟨_, (true), (by first | rfl | (simp; done) | (simp [*]; done)), H', ⟨by first | omega | exact Nat.le_refl _⟩, by repeat (first | exact Drawn0.refl _ | apply Drawn0.step)⟩
 case rest =>
  clear HC4
  obtain ⟨kq, x7_3, rfl, HA, HJ3, ⟨mc3, rfl⟩⟩ := hcut
  cases kq with
  | zero => exact absurd HA.out (by simp [spec_l01Fraction.j0])
  | succ kj3 =>
   have H := HA.out
   clear HA
   simp only [spec_l01Fraction.j0] at H
   by_cases c8 : x7_3 = true
   ·subst c8
    rw [if_pos rfl] at H
    obtain rfl := Option.some.inj H
    go_wp2
    go_ret
    exact zx
   ·replace c8 := Bool.eq_false_iff.mpr c8
    subst c8
    have H1 : (if a1 = 0 then (some 5) else (some 0)) = some r := by rw [if_neg (show ¬ (false = true) by decide)] at H; exact H
    clear H
    have H := H1
    clear H1
    replace H := ii H
    rcases H with ⟨c9, H⟩ | ⟨c9, H⟩
    ·obtain ⟨c9b0, c9b1⟩ := zz c9
     clear c9
     obtain rfl := Option.some.inj H
     go_wp2
     go_ret
     exact zx
    ·obtain ⟨c9b0, c9b1⟩ := zy c9
     obtain rfl := Option.some.inj H
     go_wp2
     go_ret
     exact zx

/-! ### spec_BallOf: function 63 -/
def spec_BallOf.j0 : Nat → Int → Int → Int → Int → Int → Option (Int × Int × Int × Int)
 | 0, _, _, _, _, _ => none
 | k + 1, x0, x1, x2, x3, x10 => if x10 = 0 then ((spec_l01Of.f k x0 x1 x2 x3).bind fun bt284 => (if bt284.2.2.2 = true then (some (bt284.1, bt284.2.1, bt284.2.2.1, 0)) else (some (0, 0, 0, 3)))) else (some (0, 0, 0, x10))
def spec_BallOf.f (k : Nat) (a0 : Int) (a1 : Int) (a2 : Int) (a3 : Int) : Option (Int × Int × Int × Int) := (spec_l01Prime.f a0).bind fun t281 => (if t281 = true then ((spec_l01Fraction.f k a1 a2 100000000000000000).bind fun t282 => ((spec_l01In.f a3 (-6) 6).bind fun t283 => (if t283 = true then (spec_BallOf.j0 k a0 a1 a2 a3 t282) else (spec_BallOf.j0 k a0 a1 a2 a3 2)))) else (some (0, 0, 0, 1)))
set_option maxHeartbeats 8000000 in
set_option maxRecDepth 100000 in
theorem spec_BallOf.calls (k : Nat) (a0 : Int) (a1 : Int) (a2 : Int) (a3 : Int) (r1 : Int) (r2 : Int) (r3 : Int) (r4 : Int) (w : World) (h : spec_BallOf.f k a0 a1 a2 a3 = some (r1, r2, r3, r4)) :
  Calls Try.prog 63 #[.int .i64 a0, .int .i64 a1, .int .i64 a2, .int .i64 a3] w fun e w' => e = .returned (.tuple #[.agg #[.int .i64 r1, .int .i64 r2, .int .i64 r3], .int .i64 r4]) ∧ Below w.heap.size w w' := by
 have hu27 := Try.underlying27
 have HB := Aside0.mk (Below.refl w.heap.size w)
 unfold spec_BallOf.f at h
 have H := h
 clear h
 replace H := zi H
 obtain ⟨t281, A5, H⟩ := H
 try dsimp only at H
 by_cases c6 : t281 = true
 ·subst c6
  rw [if_pos rfl] at H
  replace H := zi H
  obtain ⟨t282, A7, H⟩ := H
  try dsimp only at H
  replace H := zi H
  obtain ⟨t283, A8, H⟩ := H
  try dsimp only at H
  have HC9 := Aside0.mk H
  clear H
  go_enter Try.func63, Try.ntmps63
  go_upto_if 22 with (first | ((with_reducible refine zg 8 rfl ?_); refine z3 8 27 0 0 0 ?_; intro gb280 hg w10 BK280 hb; have GW280 := sg hg; replace HB := bs hb; clear hb hg) | ((with_reducible refine zf 120 rfl ?_); refine g1 (some 14) Try.func120 #[.int .i64 a0] ?_; (with_reducible refine (spec_l01Prime.calls a0 true _ A5.out).mono ?_); rintro e w' ⟨rfl, ⟨nd, rfl⟩⟩; refine ⟨_, rfl, ?_⟩) | ((with_reducible refine zf 129 rfl ?_); refine g1 (some 19) Try.func129 #[.int .i64 a1, .int .i64 a2, .int .i64 100000000000000000] ?_; (with_reducible refine (spec_l01Fraction.calls k a1 a2 100000000000000000 t282 _ A7.out).mono ?_); rintro e w' ⟨rfl, ⟨nd, rfl⟩⟩; refine ⟨_, rfl, ?_⟩) | ((with_reducible refine zf 88 rfl ?_); refine g1 (some 21) Try.func88 #[.int .i64 a3, .int .i64 (-6), .int .i64 6] ?_; (with_reducible refine (spec_l01In.calls a3 (-6) 6 t283 _ A8.out).mono ?_); rintro e w' ⟨rfl, ⟨nd, rfl⟩⟩; refine ⟨_, rfl, ?_⟩))
  (try simp only [Act.put, zq, zr, zt])
  go_cut [10] (fun v10 wc => ∃ (kq : Nat) (x10_8 : Int), v10 = .int .i64 x10_8 ∧ Aside0 (spec_BallOf.j0 kq a0 a1 a2 a3 x10_8 = some (r1, r2, r3, r4)) ∧ Aside0 (kq ≤ k) ∧ Aside0 (wc.heap[gb280]? = some (.cells #[.int .i64 0, .int .i64 0, .int .i64 0] 27 (0, 0))) ∧ Aside0 (Below w.heap.size w wc))
  case first =>
   have H := HC9.out
   clear HC9
   by_cases c11 : t283 = true
   ·subst c11
    rw [if_pos rfl] at H
    have H' := Aside0.mk H
    clear H
    go_wp2
    go_meet
    case rel => exact ⟨_, (t282), (by first | rfl | (simp; done) | (simp [*]; done)), H', ⟨by first | omega | exact Nat.le_refl _⟩, ⟨be BK280⟩, ⟨bl⟩⟩
   ·replace c11 := Bool.eq_false_iff.mpr c11
    subst c11
    have H1 : (spec_BallOf.j0 k a0 a1 a2 a3 2) = some (r1, r2, r3, r4) := by rw [if_neg (show ¬ (false = true) by decide)] at H; exact H
    clear H
    have H := H1
    clear H1
    have H' := Aside0.mk H
    clear H
    go_wp2
    go_meet
    case rel => exact ⟨_, (2), (by first | rfl | (simp; done) | (simp [*]; done)), H', ⟨by first | omega | exact Nat.le_refl _⟩, ⟨be BK280⟩, ⟨bl⟩⟩
  case rest =>
   clear HC9
   obtain ⟨kq, x10_8, rfl, HA, HJ8, BK280, HB⟩ := hcut
   cases kq with
   | zero => exact absurd HA.out (by simp [spec_BallOf.j0])
   | succ kj8 =>
    have H := HA.out
    clear HA
    simp only [spec_BallOf.j0] at H
    replace H := ii H
    rcases H with ⟨c12, H⟩ | ⟨c12, H⟩
    ·obtain ⟨c12b0, c12b1⟩ := zz c12
     clear c12
     replace H := zi H
     obtain ⟨⟨t284, t285, t286, t287⟩, A13, H⟩ := H
     try dsimp only at H
     by_cases c14 : t287 = true
     ·subst c14
      rw [if_pos rfl] at H
      simp only [Option.some.injEq, Prod.mk.injEq] at H
      obtain ⟨rfl, rfl, rfl, rfl⟩ := H
      go_wp2_with (first | ((with_reducible refine zf 97 rfl ?_); refine g1 (some 32) Try.func97 #[.int .i64 a0, .int .i64 a1, .int .i64 a2, .int .i64 a3] ?_; (with_reducible refine (spec_l01Of.calls kj8 a0 a1 a2 a3 t284 t285 t286 true _ A13.out).mono ?_); rintro e w15 ⟨rfl, hb⟩; refine ⟨_, rfl, ?_⟩; replace BK280 := bb BK280 hb; replace HB := bs hb; (try clear hb)) | ((with_reducible refine zg 11 rfl ?_); refine z3 11 27 0 0 0 ?_; intro gb288 hg w16 BK288 hb; have GW288 := sg hg; have NB280_288 := nl hg BK280; replace BK280 := bb BK280 hb; replace HB := bs hb; clear hb hg; obtain ⟨hnb17, hnc17⟩ := zm NB280_288; obtain ⟨hcz18_0, hcz18_1, hcz18_2, hfz18_0, hfz18_1, hfz18_2⟩ := cq3 BK288; obtain ⟨hcz19_0, hcz19_1, hcz19_2, hfz19_0, hfz19_1, hfz19_2⟩ := cq3 BK280))
      refine bodyPost_ret (results_ct rfl _ _ gb280 27 #[.int .i64 t284, .int .i64 t285, .int .i64 t286] (0, 0) _ rfl (bp) Try.underlying27 rfl (by kernel_rfl)) rfl ?_
      exact ⟨er, bl⟩
     ·replace c14 := Bool.eq_false_iff.mpr c14
      subst c14
      have H1 : (some (0, 0, 0, 3)) = some (r1, r2, r3, r4) := by rw [if_neg (show ¬ (false = true) by decide)] at H; exact H
      clear H
      have H := H1
      clear H1
      simp only [Option.some.injEq, Prod.mk.injEq] at H
      obtain ⟨rfl, rfl, rfl, rfl⟩ := H
      go_wp2_with (first | ((with_reducible refine zf 97 rfl ?_); refine g1 (some 32) Try.func97 #[.int .i64 a0, .int .i64 a1, .int .i64 a2, .int .i64 a3] ?_; (with_reducible refine (spec_l01Of.calls kj8 a0 a1 a2 a3 t284 t285 t286 false _ A13.out).mono ?_); rintro e w20 ⟨rfl, hb⟩; refine ⟨_, rfl, ?_⟩; replace BK280 := bb BK280 hb; replace HB := bs hb; (try clear hb)) | ((with_reducible refine zg 11 rfl ?_); refine z3 11 27 0 0 0 ?_; intro gb288 hg w21 BK288 hb; have GW288 := sg hg; have NB280_288 := nl hg BK280; replace BK280 := bb BK280 hb; replace HB := bs hb; clear hb hg; obtain ⟨hnb22, hnc22⟩ := zm NB280_288; obtain ⟨hcz23_0, hcz23_1, hcz23_2, hfz23_0, hfz23_1, hfz23_2⟩ := cq3 BK288; obtain ⟨hcz24_0, hcz24_1, hcz24_2, hfz24_0, hfz24_1, hfz24_2⟩ := cq3 BK280))
      refine bodyPost_ret (results_ct rfl _ _ gb280 27 #[.int .i64 0, .int .i64 0, .int .i64 0] (0, 0) _ rfl (bp) Try.underlying27 rfl (by kernel_rfl)) rfl ?_
      exact ⟨er, bl⟩
    ·obtain ⟨c12b0, c12b1⟩ := zy c12
     simp only [Option.some.injEq, Prod.mk.injEq] at H
     obtain ⟨rfl, rfl, rfl, rfl⟩ := H
     obtain ⟨hcz25_0, hcz25_1, hcz25_2, hfz25_0, hfz25_1, hfz25_2⟩ := cq3 BK280
     go_wp2
     refine bodyPost_ret (results_ct rfl _ _ gb280 27 #[.int .i64 0, .int .i64 0, .int .i64 0] (0, 0) _ rfl (bp) Try.underlying27 rfl (by kernel_rfl)) rfl ?_
     exact ⟨er, bl⟩
 ·replace c6 := Bool.eq_false_iff.mpr c6
  subst c6
  have H1 : (some (0, 0, 0, 1)) = some (r1, r2, r3, r4) := by rw [if_neg (show ¬ (false = true) by decide)] at H; exact H
  clear H
  have H := H1
  clear H1
  simp only [Option.some.injEq, Prod.mk.injEq] at H
  obtain ⟨rfl, rfl, rfl, rfl⟩ := H
  go_enter Try.func63, Try.ntmps63
  go_wp2_with (first | ((with_reducible refine zg 8 rfl ?_); refine z3 8 27 0 0 0 ?_; intro gb280 hg w26 BK280 hb; have GW280 := sg hg; replace HB := bs hb; clear hb hg) | ((with_reducible refine zf 120 rfl ?_); refine g1 (some 14) Try.func120 #[.int .i64 a0] ?_; (with_reducible refine (spec_l01Prime.calls a0 false _ A5.out).mono ?_); rintro e w' ⟨rfl, ⟨nd, rfl⟩⟩; refine ⟨_, rfl, ?_⟩; (try (rw [drewN_self w26]; generalize hq_ : World.drewN w26 _ = w26; have n0_ : Aside0 (w26.heap[gb280]? = some (.cells #[.int .i64 0, .int .i64 0, .int .i64 0] 27 (0, 0))) := ⟨by rw [← hq_]; exact (be BK280)⟩; have n1_ : Aside0 (Below w.heap.size w w26) := ⟨by rw [← hq_]; exact (bl)⟩; clear BK280 HB hq_; have BK280 := n0_; have HB := n1_; clear n0_ n1_)); obtain ⟨hcz27_0, hcz27_1, hcz27_2, hfz27_0, hfz27_1, hfz27_2⟩ := cq3 BK280))
  refine bodyPost_ret (results_ct rfl _ _ gb280 27 #[.int .i64 0, .int .i64 0, .int .i64 0] (0, 0) _ rfl (bp) Try.underlying27 rfl (by kernel_rfl)) rfl ?_
  exact ⟨er, bl⟩

/-! ### impl_nearness: function 130 -/
def impl_nearness.f (k : Nat) (a0 : Int) (a1_0 : Int) (a1_1 : Int) (a1_2 : Int) (a2 : Int) (a3 : Int) : Option (Int) := (impl_power.f k a0 6).bind fun t290 => ((impl_mark.f k a0 a1_0 a1_1 a1_2).bind fun t291 => (if (wrap64 ((wrap64 (a2 * t290)) - (wrap64 (t291 * a3)))) = 0 then (some 1000) else ((impl_valuation.f k a0 (wrap64 ((wrap64 (a2 * t290)) - (wrap64 (t291 * a3))))).bind fun t292 => ((impl_valuation.f k a0 a3).bind fun t293 => (some (wrap64 ((wrap64 (t292 - t293)) - 6)))))))
def impl_nearness.T1 : Bool × List (List Nat × List Nat) := (true, [([], []), ([], []), ([1], [1]), ([0, 2], [0, 2]), ([], []), ([], []), ([4, 5, 2], [4, 5]), ([], []), ([6, 7], [6, 7]), ([3, 8], [3, 8]), ([9, 6, 0, 1, 2, 3, 4, 5, 6, 7, 8, 9], [9])])
def impl_nearness.B1 : List Nat := [0, 0, 2, 7, 0, 0, 54, 0, 246, 511, 1023]
theorem impl_nearness.tab1 : rtab .any (opsOf Try.f130 1) = impl_nearness.T1 := by kernel_rfl
theorem impl_nearness.bits1 : waitsOk impl_nearness.T1.2 impl_nearness.B1 = true := by kernel_rfl
set_option maxHeartbeats 8000000 in
set_option maxRecDepth 100000 in
theorem impl_nearness.calls (k : Nat) (a0 : Int) (a1_0 : Int) (a1_1 : Int) (a1_2 : Int) (a2 : Int) (a3 : Int) (r : Int) (w : World) (h : impl_nearness.f k a0 a1_0 a1_1 a1_2 a2 a3 = some r) :
  Calls Try.prog 130 #[.int .i64 a0, .agg #[.int .i64 a1_0, .int .i64 a1_1, .int .i64 a1_2], .int .i64 a2, .int .i64 a3] w fun e w' => e = .returned (.int .i64 r) ∧ Below w.heap.size w w' := by
 have hu27 := Try.underlying27
 have HB := Aside0.mk (Below.refl w.heap.size w)
 unfold impl_nearness.f at h
 have H := h
 clear h
 replace H := zi H
 obtain ⟨t290, A5, H⟩ := H
 try dsimp only at H
 replace H := zi H
 obtain ⟨t291, A6, H⟩ := H
 try dsimp only at H
 replace H := ii H
 rcases H with ⟨c7, H⟩ | ⟨c7, H⟩
 ·obtain ⟨c7b0, c7b1⟩ := zz c7
  clear c7
  obtain rfl := Option.some.inj H
  go_enter Try.func130, Try.ntmps130
  try go_wp2_with (first | ((with_reducible refine zg 5 rfl ?_); refine z3 5 27 a1_0 a1_1 a1_2 ?_; intro gb289 hg w8 BK289 hb; have GW289 := sg hg; replace HB := bs hb; clear hb hg))
  replace BK289 := Aside0.mk (blk_drew BK289.out)
  replace HB := Aside0.mk (below_drew1 HB.out)
  refine sw 11 (fun w' => w'.cell? ⟨gb289, 0, none⟩ = some (.int .i64 a1_0) ∧ w'.cell? ⟨gb289, 1, none⟩ = some (.int .i64 a1_1) ∧ w'.cell? ⟨gb289, 2, none⟩ = some (.int .i64 a1_2)) impl_nearness.tab1 impl_nearness.bits1 (e3 BK289) (fun hHeld HT_ HW_ => ?_)
  generalize w8.drew = w9 at BK289 HB hHeld ⊢
  refine pu 0 (some 10) (tA 11 1) HT_ ?_
  refine pu 1 (some 11) (tA 11 3) HT_ ?_
  refine pu 4 (some 14) (tA 11 19) HT_ ?_
  refine pu 7 (some 17) (tA 11 147) HT_ ?_
  refine tk3 5 (some 15) (tA 11 179) HT_ HW_ hHeld ?_
  refine o1 2 (some 12) (tA 11 183) HT_ (fun K hK => ?_)
  refine gs Try.func103 #[.int .i64 a0, .int .i64 6] ?_
  with_reducible refine (impl_power.calls k a0 6 t290 _ A5.out).mono ?_
  rintro e w' ⟨rfl, ⟨nd, rfl⟩⟩
  refine ⟨_, rfl, ?_⟩
  refine hK.out _ _ (e3 BK289) (fun hHeld => ?_)
  clear hK K
  refine nm (some 12) ?_
  refine pu 3 (some 13) (tA 11 191) HT_ ?_
  refine o1 6 (some 16) (tA 11 255) HT_ (fun K hK => ?_)
  refine gs Try.func95 #[.int .i64 a0, .agg #[.int .i64 a1_0, .int .i64 a1_1, .int .i64 a1_2]] ?_
  with_reducible refine (impl_mark.calls k a0 a1_0 a1_1 a1_2 t291 _ A6.out).mono ?_
  rintro e w10 ⟨rfl, hb⟩
  refine ⟨_, rfl, ?_⟩
  replace BK289 := bb BK289 hb
  replace HB := bs hb
  (try clear hb)
  (try clear hb2)
  (try clear hk)
  (try clear hi)
  refine hK.out _ _ (e3 BK289) (fun hHeld => ?_)
  clear hK K
  refine nm (some 16) ?_
  refine pu 8 (some 18) (tA 11 511) HT_ ?_
  refine pu 9 (some 19) (tA 11 1023) HT_ ?_
  refine pu 10 (some 9) (tA 11 2047) HT_ ?_
  refine done_ (done_of HT_.out (by kernel_rfl)) ?_
  try go_wp2
  go_ret
  exact ⟨er, bl⟩
 ·obtain ⟨c7b0, c7b1⟩ := zy c7
  replace H := zi H
  obtain ⟨t292, A11, H⟩ := H
  try dsimp only at H
  replace H := zi H
  obtain ⟨t293, A12, H⟩ := H
  try dsimp only at H
  obtain rfl := Option.some.inj H
  go_enter Try.func130, Try.ntmps130
  try go_wp2_with (first | ((with_reducible refine zg 5 rfl ?_); refine z3 5 27 a1_0 a1_1 a1_2 ?_; intro gb289 hg w13 BK289 hb; have GW289 := sg hg; replace HB := bs hb; clear hb hg))
  replace BK289 := Aside0.mk (blk_drew BK289.out)
  replace HB := Aside0.mk (below_drew1 HB.out)
  refine sw 11 (fun w' => w'.cell? ⟨gb289, 0, none⟩ = some (.int .i64 a1_0) ∧ w'.cell? ⟨gb289, 1, none⟩ = some (.int .i64 a1_1) ∧ w'.cell? ⟨gb289, 2, none⟩ = some (.int .i64 a1_2)) impl_nearness.tab1 impl_nearness.bits1 (e3 BK289) (fun hHeld HT_ HW_ => ?_)
  generalize w13.drew = w14 at BK289 HB hHeld ⊢
  refine pu 0 (some 10) (tA 11 1) HT_ ?_
  refine pu 1 (some 11) (tA 11 3) HT_ ?_
  refine pu 4 (some 14) (tA 11 19) HT_ ?_
  refine pu 7 (some 17) (tA 11 147) HT_ ?_
  refine tk3 5 (some 15) (tA 11 179) HT_ HW_ hHeld ?_
  refine o1 2 (some 12) (tA 11 183) HT_ (fun K hK => ?_)
  refine gs Try.func103 #[.int .i64 a0, .int .i64 6] ?_
  with_reducible refine (impl_power.calls k a0 6 t290 _ A5.out).mono ?_
  rintro e w' ⟨rfl, ⟨nd, rfl⟩⟩
  refine ⟨_, rfl, ?_⟩
  refine hK.out _ _ (e3 BK289) (fun hHeld => ?_)
  clear hK K
  refine nm (some 12) ?_
  refine pu 3 (some 13) (tA 11 191) HT_ ?_
  refine o1 6 (some 16) (tA 11 255) HT_ (fun K hK => ?_)
  refine gs Try.func95 #[.int .i64 a0, .agg #[.int .i64 a1_0, .int .i64 a1_1, .int .i64 a1_2]] ?_
  with_reducible refine (impl_mark.calls k a0 a1_0 a1_1 a1_2 t291 _ A6.out).mono ?_
  rintro e w15 ⟨rfl, hb⟩
  refine ⟨_, rfl, ?_⟩
  replace BK289 := bb BK289 hb
  replace HB := bs hb
  (try clear hb)
  (try clear hb2)
  (try clear hk)
  (try clear hi)
  refine hK.out _ _ (e3 BK289) (fun hHeld => ?_)
  clear hK K
  refine nm (some 16) ?_
  refine pu 8 (some 18) (tA 11 511) HT_ ?_
  refine pu 9 (some 19) (tA 11 1023) HT_ ?_
  refine pu 10 (some 9) (tA 11 2047) HT_ ?_
  refine done_ (done_of HT_.out (by kernel_rfl)) ?_
  try go_wp2_with (first | ((with_reducible refine zf 137 rfl ?_); refine g1 (some 24) Try.func137 #[.int .i64 a0, .int .i64 (wrap64 ((wrap64 (a2 * t290)) - (wrap64 (t291 * a3))))] ?_; (with_reducible refine (impl_valuation.calls k a0 (wrap64 ((wrap64 (a2 * t290)) - (wrap64 (t291 * a3)))) t292 _ A11.out).mono ?_); rintro e w' ⟨rfl, ⟨nd, rfl⟩⟩; refine ⟨_, rfl, ?_⟩) | ((with_reducible refine zf 137 rfl ?_); refine g1 (some 27) Try.func137 #[.int .i64 a0, .int .i64 a3] ?_; (with_reducible refine (impl_valuation.calls k a0 a3 t293 _ A12.out).mono ?_); rintro e w' ⟨rfl, ⟨nd, rfl⟩⟩; refine ⟨_, rfl, ?_⟩))
  go_ret
  exact ⟨er, bl⟩

end Go.Proofs.Ytpmepopagapeiaa.PFnBalls

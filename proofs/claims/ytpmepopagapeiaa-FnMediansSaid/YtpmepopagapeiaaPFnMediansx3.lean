-- Printed by the kit's print and repaired by a program of this session.
import Derived.Test.YtpmepopagapeiaaPFnMediansx0
import Derived.Test.YtpmepopagapeiaaPFnMediansx2
namespace Go.Proofs.Ytpmepopagapeiaa.PFnMedians
open Go.RowKit Go.Proofs.YtpmepopagapeiaaW.PrintWords Go.Proofs.YtpmepopagapeiaaW.PrintLast Go.Proofs.YtpmepopagapeiaaW.PrintMore
attribute [local go_sem] max2_int min2_int max_two min_two max_three min_three max_four min_four
set_option linter.unusedVariables false
set_option linter.unusedSimpArgs false

/-! ### spec_l01Of: function 97 -/
def spec_l01Of.f (k : Nat) (a0 : Int) (a1 : Int) (a2 : Int) (a3 : Int) : Option (Int × Int × Int × Bool) := (spec_l01In.f a3 (-6) 6).bind fun t111 => (if t111 = true then (if a1 = 0 then (some (a3, 0, 0, true)) else ((spec_l01Val.f k a0 a1).bind fun t113 => ((spec_l01Val.f k a0 a2).bind fun t114 => (if a3 ≤ (wrap64 (t113 - t114)) then (some (a3, 0, 0, true)) else (if (mx (wrap64 (t114 - t113)) 0) > 6 then (some (0, 0, 0, false)) else ((spec_l01Power.f k a0 (wrap64 (a3 + (mx (wrap64 (t114 - t113)) 0)))).bind fun t115 => ((spec_l01Power.f k a0 t113).bind fun t116 => (if t116 = 0 then (none) else ((spec_l01Power.f k a0 t114).bind fun t117 => (if t117 = 0 then (none) else ((spec_l01InvMod.f k (wrap64 (Int.tdiv a2 t117)) t115).bind fun t118 => ((spec_l01MulMod.f (wrap64 (Int.tdiv a1 t116)) t118 t115).bind fun t119 => ((spec_l01Power.f k a0 (mx (wrap64 (t113 - t114)) 0)).bind fun t120 => ((spec_l01MulMod.f t119 t120 t115).bind fun t121 => (some (a3, t121, mx (wrap64 (t114 - t113)) 0, true)))))))))))))))) else (some (0, 0, 0, false)))
set_option maxHeartbeats 8000000 in
set_option maxRecDepth 100000 in
theorem spec_l01Of.calls (k : Nat) (a0 : Int) (a1 : Int) (a2 : Int) (a3 : Int) (r1 : Int) (r2 : Int) (r3 : Int) (r4 : Bool) (w : World) (h : spec_l01Of.f k a0 a1 a2 a3 = some (r1, r2, r3, r4)) :
  Calls Try.prog 97 #[.int .i64 a0, .int .i64 a1, .int .i64 a2, .int .i64 a3] w fun e w' => e = .returned (.tuple #[.agg #[.int .i64 r1, .int .i64 r2, .int .i64 r3], .bool r4]) ∧ Below w.heap.size w w' := by
 have hu27 := Try.underlying27
 have HB := Aside0.mk (Below.refl w.heap.size w)
 unfold spec_l01Of.f at h
 have H := h
 clear h
 replace H := zi H
 obtain ⟨t111, A5, H⟩ := H
 try dsimp only at H
 by_cases c6 : t111 = true
 ·subst c6
  rw [if_pos rfl] at H
  replace H := ii H
  rcases H with ⟨c7, H⟩ | ⟨c7, H⟩
  ·obtain ⟨c7b0, c7b1⟩ := zz c7
   clear c7
   simp only [Option.some.injEq, Prod.mk.injEq] at H
   obtain ⟨rfl, rfl, rfl, rfl⟩ := H
   go_enter Try.func97, Try.ntmps97
   go_wp2_with (first | ((with_reducible refine zg 8 rfl ?_); refine z3 8 27 0 0 0 ?_; intro gb110 hg w8 BK110 hb; have GW110 := sg hg; replace HB := bs hb; clear hb hg) | ((with_reducible refine zf 88 rfl ?_); refine g1 (some 15) Try.func88 #[.int .i64 a3, .int .i64 (-6), .int .i64 6] ?_; (with_reducible refine (spec_l01In.calls a3 (-6) 6 true _ A5.out).mono ?_); rintro e w' ⟨rfl, ⟨nd, rfl⟩⟩; refine ⟨_, rfl, ?_⟩; (try (rw [drewN_self w8]; generalize hq_ : World.drewN w8 _ = w8; have n0_ : Aside0 (w8.heap[gb110]? = some (.cells #[.int .i64 0, .int .i64 0, .int .i64 0] 27 (0, 0))) := ⟨by rw [← hq_]; exact (be BK110)⟩; have n1_ : Aside0 (Below w.heap.size w w8) := ⟨by rw [← hq_]; exact (bl)⟩; clear BK110 HB hq_; have BK110 := n0_; have HB := n1_; clear n0_ n1_))) | ((with_reducible refine zg 10 rfl ?_); refine z3 10 27 0 0 0 ?_; intro gb112 hg w9 BK112 hb; have GW112 := sg hg; have NB110_112 := nl hg BK110; replace BK110 := bb BK110 hb; replace HB := bs hb; clear hb hg; obtain ⟨hnb10, hnc10⟩ := zm NB110_112; obtain ⟨hcz11_0, hcz11_1, hcz11_2, hfz11_0, hfz11_1, hfz11_2⟩ := cq3 BK112; obtain ⟨hcz12_0, hcz12_1, hcz12_2, hfz12_0, hfz12_1, hfz12_2⟩ := cq3 BK110))
   refine bodyPost_ret (results_ct rfl _ _ gb110 27 #[.int .i64 a3, .int .i64 0, .int .i64 0] (0, 0) _ rfl (bp) Try.underlying27 rfl (by kernel_rfl)) rfl ?_
   exact ⟨er, bl⟩
  ·obtain ⟨c7b0, c7b1⟩ := zy c7
   replace H := zi H
   obtain ⟨t113, A13, H⟩ := H
   try dsimp only at H
   replace H := zi H
   obtain ⟨t114, A14, H⟩ := H
   try dsimp only at H
   replace H := ii H
   rcases H with ⟨c15, H⟩ | ⟨c15, H⟩
   ·have c15b0 := decide_eq_true c15
    clear c15
    simp only [Option.some.injEq, Prod.mk.injEq] at H
    obtain ⟨rfl, rfl, rfl, rfl⟩ := H
    go_enter Try.func97, Try.ntmps97
    go_wp2_with (first | ((with_reducible refine zg 8 rfl ?_); refine z3 8 27 0 0 0 ?_; intro gb110 hg w16 BK110 hb; have GW110 := sg hg; replace HB := bs hb; clear hb hg) | ((with_reducible refine zf 88 rfl ?_); refine g1 (some 15) Try.func88 #[.int .i64 a3, .int .i64 (-6), .int .i64 6] ?_; (with_reducible refine (spec_l01In.calls a3 (-6) 6 true _ A5.out).mono ?_); rintro e w' ⟨rfl, ⟨nd, rfl⟩⟩; refine ⟨_, rfl, ?_⟩; (try (rw [drewN_self w16]; generalize hq_ : World.drewN w16 _ = w16; have n0_ : Aside0 (w16.heap[gb110]? = some (.cells #[.int .i64 0, .int .i64 0, .int .i64 0] 27 (0, 0))) := ⟨by rw [← hq_]; exact (be BK110)⟩; have n1_ : Aside0 (Below w.heap.size w w16) := ⟨by rw [← hq_]; exact (bl)⟩; clear BK110 HB hq_; have BK110 := n0_; have HB := n1_; clear n0_ n1_))) | ((with_reducible refine zg 10 rfl ?_); refine z3 10 27 0 0 0 ?_; intro gb112 hg w17 BK112 hb; have GW112 := sg hg; have NB110_112 := nl hg BK110; replace BK110 := bb BK110 hb; replace HB := bs hb; clear hb hg; obtain ⟨hnb18, hnc18⟩ := zm NB110_112; obtain ⟨hcz19_0, hcz19_1, hcz19_2, hfz19_0, hfz19_1, hfz19_2⟩ := cq3 BK112) | ((with_reducible refine zf 138 rfl ?_); refine g1 (some 25) Try.func138 #[.int .i64 a0, .int .i64 a1] ?_; (with_reducible refine (spec_l01Val.calls k a0 a1 t113 _ A13.out).mono ?_); rintro e w' ⟨rfl, ⟨nd, rfl⟩⟩; refine ⟨_, rfl, ?_⟩) | ((with_reducible refine zf 138 rfl ?_); refine g1 (some 28) Try.func138 #[.int .i64 a0, .int .i64 a2] ?_; (with_reducible refine (spec_l01Val.calls k a0 a2 t114 _ A14.out).mono ?_); rintro e w' ⟨rfl, ⟨nd, rfl⟩⟩; refine ⟨_, rfl, ?_⟩; have hqz1 : ∀ n, (World.drewN (World.setCell (World.setCell (World.setCell w17 ⟨gb112, 0, none⟩ (.int .i64 a3)) ⟨gb112, 1, none⟩ (.int .i64 0)) ⟨gb112, 2, none⟩ (.int .i64 0)) n).cell? ⟨gb112, 1, none⟩ = some (.int .i64 0) := (by intro n; go_simp); have hqz2 : ∀ n, (World.drewN (World.setCell (World.setCell (World.setCell w17 ⟨gb112, 0, none⟩ (.int .i64 a3)) ⟨gb112, 1, none⟩ (.int .i64 0)) ⟨gb112, 2, none⟩ (.int .i64 0)) n).cell? ⟨gb112, 2, none⟩ = some (.int .i64 0) := (by intro n; go_simp); obtain ⟨hcz20_0, hcz20_1, hcz20_2, hfz20_0, hfz20_1, hfz20_2⟩ := cq3 BK110))
    refine bodyPost_ret (results_ct rfl _ _ gb110 27 #[.int .i64 a3, .int .i64 0, .int .i64 0] (0, 0) _ rfl (bp) Try.underlying27 rfl (by kernel_rfl)) rfl ?_
    exact ⟨er, bl⟩
   ·have c15b0 := decide_eq_false c15
    clear c15
    obtain ⟨ji21, hji21⟩ : ∃ j_ : Int, (mx (wrap64 (t114 - t113)) 0) = j_ := ⟨_, rfl⟩
    replace H : (if (ji21) > 6 then (some (0, 0, 0, false)) else ((spec_l01Power.f k a0 (wrap64 (a3 + (ji21)))).bind fun t115 => ((spec_l01Power.f k a0 t113).bind fun t116 => (if t116 = 0 then (none) else ((spec_l01Power.f k a0 t114).bind fun t117 => (if t117 = 0 then (none) else ((spec_l01InvMod.f k (wrap64 (Int.tdiv a2 t117)) t115).bind fun t118 => ((spec_l01MulMod.f (wrap64 (Int.tdiv a1 t116)) t118 t115).bind fun t119 => ((spec_l01Power.f k a0 (mx (wrap64 (t113 - t114)) 0)).bind fun t120 => ((spec_l01MulMod.f t119 t120 t115).bind fun t121 => (some (a3, t121, ji21, true)))))))))))) = some (r1, r2, r3, r4) := by first | (rw [hji21] at H; exact H) | (simp only [hji21] at H ⊢; exact H)
    (try rw [hji21] at A5)
    (try rw [hji21] at A13)
    (try rw [hji21] at A14)
    (try (have hji21l : 0 ≤ ji21 := by (rw [← hji21]; unfold mx; (repeat' split) <;> omega)))
    (try (have hji21m : 0 ≤ ji21 := by omega))
    have hji21_ : (if (wrap64 (t114 - t113)) < 0 then 0 else (wrap64 (t114 - t113))) = ji21 := hji21
    replace H := ii H
    rcases H with ⟨c22, H⟩ | ⟨c22, H⟩
    ·have c22b0 := decide_eq_true c22
     clear c22
     simp only [Option.some.injEq, Prod.mk.injEq] at H
     obtain ⟨rfl, rfl, rfl, rfl⟩ := H
     go_enter Try.func97, Try.ntmps97
     go_wp2_with (first | ((with_reducible refine zg 8 rfl ?_); refine z3 8 27 0 0 0 ?_; intro gb110 hg w23 BK110 hb; have GW110 := sg hg; replace HB := bs hb; clear hb hg) | ((with_reducible refine zf 88 rfl ?_); refine g1 (some 15) Try.func88 #[.int .i64 a3, .int .i64 (-6), .int .i64 6] ?_; (with_reducible refine (spec_l01In.calls a3 (-6) 6 true _ A5.out).mono ?_); rintro e w' ⟨rfl, ⟨nd, rfl⟩⟩; refine ⟨_, rfl, ?_⟩; (try (rw [drewN_self w23]; generalize hq_ : World.drewN w23 _ = w23; have n0_ : Aside0 (w23.heap[gb110]? = some (.cells #[.int .i64 0, .int .i64 0, .int .i64 0] 27 (0, 0))) := ⟨by rw [← hq_]; exact (be BK110)⟩; have n1_ : Aside0 (Below w.heap.size w w23) := ⟨by rw [← hq_]; exact (bl)⟩; clear BK110 HB hq_; have BK110 := n0_; have HB := n1_; clear n0_ n1_))) | ((with_reducible refine zg 10 rfl ?_); refine z3 10 27 0 0 0 ?_; intro gb112 hg w24 BK112 hb; have GW112 := sg hg; have NB110_112 := nl hg BK110; replace BK110 := bb BK110 hb; replace HB := bs hb; clear hb hg; obtain ⟨hnb25, hnc25⟩ := zm NB110_112; obtain ⟨hcz26_0, hcz26_1, hcz26_2, hfz26_0, hfz26_1, hfz26_2⟩ := cq3 BK112) | ((with_reducible refine zf 138 rfl ?_); refine g1 (some 25) Try.func138 #[.int .i64 a0, .int .i64 a1] ?_; (with_reducible refine (spec_l01Val.calls k a0 a1 t113 _ A13.out).mono ?_); rintro e w' ⟨rfl, ⟨nd, rfl⟩⟩; refine ⟨_, rfl, ?_⟩) | ((with_reducible refine zf 138 rfl ?_); refine g1 (some 28) Try.func138 #[.int .i64 a0, .int .i64 a2] ?_; (with_reducible refine (spec_l01Val.calls k a0 a2 t114 _ A14.out).mono ?_); rintro e w' ⟨rfl, ⟨nd, rfl⟩⟩; refine ⟨_, rfl, ?_⟩; have hqz1 : ∀ n, (World.drewN (World.setCell (World.setCell (World.setCell w24 ⟨gb112, 0, none⟩ (.int .i64 a3)) ⟨gb112, 1, none⟩ (.int .i64 0)) ⟨gb112, 2, none⟩ (.int .i64 0)) n).cell? ⟨gb112, 1, none⟩ = some (.int .i64 0) := (by intro n; go_simp); have hqz2 : ∀ n, (World.drewN (World.setCell (World.setCell (World.setCell w24 ⟨gb112, 0, none⟩ (.int .i64 a3)) ⟨gb112, 1, none⟩ (.int .i64 0)) ⟨gb112, 2, none⟩ (.int .i64 0)) n).cell? ⟨gb112, 2, none⟩ = some (.int .i64 0) := (by intro n; go_simp); obtain ⟨hcz27_0, hcz27_1, hcz27_2, hfz27_0, hfz27_1, hfz27_2⟩ := cq3 BK110))
     refine bodyPost_ret (results_ct rfl _ _ gb110 27 #[.int .i64 0, .int .i64 0, .int .i64 0] (0, 0) _ rfl (bp) Try.underlying27 rfl (by kernel_rfl)) rfl ?_
     exact ⟨by first | rfl | (simp [errW_none, errW_some] <;> rfl) | (simp only [← hji21]; first | rfl | (simp [errW_none, errW_some] <;> rfl)) | (simp [*, errW_none, errW_some] <;> rfl), bl⟩
    ·have c22b0 := decide_eq_false c22
     clear c22
     replace H := zi H
     obtain ⟨t115, A28, H⟩ := H
     try dsimp only at H
     replace H := zi H
     obtain ⟨t116, A29, H⟩ := H
     try dsimp only at H
     replace H := ii H
     rcases H with ⟨c30, H⟩ | ⟨c30, H⟩
     ·exact absurd H (by simp)
     ·obtain ⟨c30b0, c30b1⟩ := zy c30
      replace H := zi H
      obtain ⟨t117, A31, H⟩ := H
      try dsimp only at H
      replace H := ii H
      rcases H with ⟨c32, H⟩ | ⟨c32, H⟩
      ·exact absurd H (by simp)
      ·obtain ⟨c32b0, c32b1⟩ := zy c32
       replace H := zi H
       obtain ⟨t118, A33, H⟩ := H
       try dsimp only at H
       replace H := zi H
       obtain ⟨t119, A34, H⟩ := H
       try dsimp only at H
       obtain ⟨ji35, hji35⟩ : ∃ j_ : Int, (mx (wrap64 (t113 - t114)) 0) = j_ := ⟨_, rfl⟩
       replace H : ((spec_l01Power.f k a0 (ji35)).bind fun t120 => ((spec_l01MulMod.f t119 t120 t115).bind fun t121 => (some (a3, t121, ji21, true)))) = some (r1, r2, r3, r4) := by first | (rw [hji35] at H; exact H) | (simp only [hji35] at H ⊢; exact H)
       (try rw [hji35] at A5)
       (try rw [hji35] at A13)
       (try rw [hji35] at A14)
       (try rw [hji35] at A28)
       (try rw [hji35] at A29)
       (try rw [hji35] at A31)
       (try rw [hji35] at A33)
       (try rw [hji35] at A34)
       (try (have hji35l : 0 ≤ ji35 := by (rw [← hji35]; unfold mx; (repeat' split) <;> omega)))
       (try (have hji35m : 0 ≤ ji35 := by omega))
       have hji35_ : (if (wrap64 (t113 - t114)) < 0 then 0 else (wrap64 (t113 - t114))) = ji35 := hji35
       replace H := zi H
       obtain ⟨t120, A36, H⟩ := H
       try dsimp only at H
       replace H := zi H
       obtain ⟨t121, A37, H⟩ := H
       try dsimp only at H
       simp only [Option.some.injEq, Prod.mk.injEq] at H
       obtain ⟨rfl, rfl, rfl, rfl⟩ := H
       go_enter Try.func97, Try.ntmps97
       go_wp2_with (first | ((with_reducible refine zg 8 rfl ?_); refine z3 8 27 0 0 0 ?_; intro gb110 hg w38 BK110 hb; have GW110 := sg hg; replace HB := bs hb; clear hb hg) | ((with_reducible refine zf 88 rfl ?_); refine g1 (some 15) Try.func88 #[.int .i64 a3, .int .i64 (-6), .int .i64 6] ?_; (with_reducible refine (spec_l01In.calls a3 (-6) 6 true _ A5.out).mono ?_); rintro e w' ⟨rfl, ⟨nd, rfl⟩⟩; refine ⟨_, rfl, ?_⟩; (try (rw [drewN_self w38]; generalize hq_ : World.drewN w38 _ = w38; have n0_ : Aside0 (w38.heap[gb110]? = some (.cells #[.int .i64 0, .int .i64 0, .int .i64 0] 27 (0, 0))) := ⟨by rw [← hq_]; exact (be BK110)⟩; have n1_ : Aside0 (Below w.heap.size w w38) := ⟨by rw [← hq_]; exact (bl)⟩; clear BK110 HB hq_; have BK110 := n0_; have HB := n1_; clear n0_ n1_))) | ((with_reducible refine zg 10 rfl ?_); refine z3 10 27 0 0 0 ?_; intro gb112 hg w39 BK112 hb; have GW112 := sg hg; have NB110_112 := nl hg BK110; replace BK110 := bb BK110 hb; replace HB := bs hb; clear hb hg; obtain ⟨hnb40, hnc40⟩ := zm NB110_112; obtain ⟨hcz41_0, hcz41_1, hcz41_2, hfz41_0, hfz41_1, hfz41_2⟩ := cq3 BK112) | ((with_reducible refine zf 138 rfl ?_); refine g1 (some 25) Try.func138 #[.int .i64 a0, .int .i64 a1] ?_; (with_reducible refine (spec_l01Val.calls k a0 a1 t113 _ A13.out).mono ?_); rintro e w' ⟨rfl, ⟨nd, rfl⟩⟩; refine ⟨_, rfl, ?_⟩) | ((with_reducible refine zf 138 rfl ?_); refine g1 (some 28) Try.func138 #[.int .i64 a0, .int .i64 a2] ?_; (with_reducible refine (spec_l01Val.calls k a0 a2 t114 _ A14.out).mono ?_); rintro e w' ⟨rfl, ⟨nd, rfl⟩⟩; refine ⟨_, rfl, ?_⟩; have hqz1 : ∀ n, (World.drewN (World.setCell (World.setCell (World.setCell w39 ⟨gb112, 0, none⟩ (.int .i64 a3)) ⟨gb112, 1, none⟩ (.int .i64 0)) ⟨gb112, 2, none⟩ (.int .i64 0)) n).cell? ⟨gb112, 1, none⟩ = some (.int .i64 0) := (by intro n; go_simp); have hqz2 : ∀ n, (World.drewN (World.setCell (World.setCell (World.setCell w39 ⟨gb112, 0, none⟩ (.int .i64 a3)) ⟨gb112, 1, none⟩ (.int .i64 0)) ⟨gb112, 2, none⟩ (.int .i64 0)) n).cell? ⟨gb112, 2, none⟩ = some (.int .i64 0) := (by intro n; go_simp)) | ((with_reducible refine zf 96 rfl ?_); refine goesL_ (some 49) rfl rfl Try.func96 (by kernel_rfl) rfl #[.int .i64 a0, .int .i64 (wrap64 (a3 + (ji21)))] rfl (by (try simp only [List.map_toArray, List.map_cons, List.map_nil]); first | done | (simp only [hji21]; rfl) | rfl | (simp only [List.length_drop, List.length_take]; rfl)) ?_; (with_reducible refine (spec_l01Power.calls k a0 (wrap64 (a3 + (ji21))) t115 _ A28.out).mono ?_); rintro e w' ⟨rfl, ⟨nd, rfl⟩⟩; refine ⟨_, rfl, ?_⟩) | ((with_reducible refine zf 96 rfl ?_); refine g1 (some 53) Try.func96 #[.int .i64 a0, .int .i64 t113] ?_; (with_reducible refine (spec_l01Power.calls k a0 t113 t116 _ A29.out).mono ?_); rintro e w' ⟨rfl, ⟨nd, rfl⟩⟩; refine ⟨_, rfl, ?_⟩) | ((with_reducible refine zf 96 rfl ?_); refine g1 (some 58) Try.func96 #[.int .i64 a0, .int .i64 t114] ?_; (with_reducible refine (spec_l01Power.calls k a0 t114 t117 _ A31.out).mono ?_); rintro e w' ⟨rfl, ⟨nd, rfl⟩⟩; refine ⟨_, rfl, ?_⟩) | ((with_reducible refine zf 144 rfl ?_); refine g1 (some 63) Try.func144 #[.int .i64 (wrap64 (Int.tdiv a2 t117)), .int .i64 t115] ?_; (with_reducible refine (spec_l01InvMod.calls k (wrap64 (Int.tdiv a2 t117)) t115 t118 _ A33.out).mono ?_); rintro e w' ⟨rfl, ⟨nd, rfl⟩⟩; refine ⟨_, rfl, ?_⟩) | ((with_reducible refine zf 143 rfl ?_); refine g1 (some 65) Try.func143 #[.int .i64 (wrap64 (Int.tdiv a1 t116)), .int .i64 t118, .int .i64 t115] ?_; (with_reducible refine (spec_l01MulMod.calls (wrap64 (Int.tdiv a1 t116)) t118 t115 t119 _ A34.out).mono ?_); rintro e w' ⟨rfl, ⟨nd, rfl⟩⟩; refine ⟨_, rfl, ?_⟩) | ((with_reducible refine zf 96 rfl ?_); refine goesL_ (some 71) rfl rfl Try.func96 (by kernel_rfl) rfl #[.int .i64 a0, .int .i64 ji35] rfl (by (try simp only [List.map_toArray, List.map_cons, List.map_nil]); first | done | (simp only [hji35]; rfl) | rfl | (simp only [List.length_drop, List.length_take]; rfl)) ?_; (with_reducible refine (spec_l01Power.calls k a0 ji35 t120 _ A36.out).mono ?_); rintro e w' ⟨rfl, ⟨nd, rfl⟩⟩; refine ⟨_, rfl, ?_⟩) | ((with_reducible refine zf 143 rfl ?_); refine g1 (some 73) Try.func143 #[.int .i64 t119, .int .i64 t120, .int .i64 t115] ?_; (with_reducible refine (spec_l01MulMod.calls t119 t120 t115 t121 _ A37.out).mono ?_); rintro e w' ⟨rfl, ⟨nd, rfl⟩⟩; refine ⟨_, rfl, ?_⟩; obtain ⟨hcz42_0, hcz42_1, hcz42_2, hfz42_0, hfz42_1, hfz42_2⟩ := cq3 BK110))
       refine bodyPost_ret (results_ct rfl _ _ gb110 27 #[.int .i64 a3, .int .i64 t121, .int .i64 ji21] (0, 0) _ rfl (bp) Try.underlying27 rfl (by kernel_rfl)) rfl ?_
       exact ⟨by first | rfl | (simp [errW_none, errW_some] <;> rfl) | (simp only [← hji21, ← hji35]; first | rfl | (simp [errW_none, errW_some] <;> rfl)) | (simp [*, errW_none, errW_some] <;> rfl), bl⟩
 ·replace c6 := Bool.eq_false_iff.mpr c6
  subst c6
  have H1 : (some (0, 0, 0, false)) = some (r1, r2, r3, r4) := by rw [if_neg (show ¬ (false = true) by decide)] at H; exact H
  clear H
  have H := H1
  clear H1
  simp only [Option.some.injEq, Prod.mk.injEq] at H
  obtain ⟨rfl, rfl, rfl, rfl⟩ := H
  go_enter Try.func97, Try.ntmps97
  go_wp2_with (first | ((with_reducible refine zg 8 rfl ?_); refine z3 8 27 0 0 0 ?_; intro gb110 hg w43 BK110 hb; have GW110 := sg hg; replace HB := bs hb; clear hb hg) | ((with_reducible refine zf 88 rfl ?_); refine g1 (some 15) Try.func88 #[.int .i64 a3, .int .i64 (-6), .int .i64 6] ?_; (with_reducible refine (spec_l01In.calls a3 (-6) 6 false _ A5.out).mono ?_); rintro e w' ⟨rfl, ⟨nd, rfl⟩⟩; refine ⟨_, rfl, ?_⟩; (try (rw [drewN_self w43]; generalize hq_ : World.drewN w43 _ = w43; have n0_ : Aside0 (w43.heap[gb110]? = some (.cells #[.int .i64 0, .int .i64 0, .int .i64 0] 27 (0, 0))) := ⟨by rw [← hq_]; exact (be BK110)⟩; have n1_ : Aside0 (Below w.heap.size w w43) := ⟨by rw [← hq_]; exact (bl)⟩; clear BK110 HB hq_; have BK110 := n0_; have HB := n1_; clear n0_ n1_)); obtain ⟨hcz44_0, hcz44_1, hcz44_2, hfz44_0, hfz44_1, hfz44_2⟩ := cq3 BK110))
  refine bodyPost_ret (results_ct rfl _ _ gb110 27 #[.int .i64 0, .int .i64 0, .int .i64 0] (0, 0) _ rfl (bp) Try.underlying27 rfl (by kernel_rfl)) rfl ?_
  exact ⟨er, bl⟩

/-! ### spec_l01Parent: function 106 -/
def spec_l01Parent.f (k : Nat) (a0 : Int) (a1_0 : Int) (a1_1 : Int) (a1_2 : Int) : Option (Int × Int × Int × Bool) := (spec_l01Power.f k a0 a1_2).bind fun t124 => ((spec_l01Of.f k a0 a1_1 t124 (wrap64 (a1_0 - 1))).bind fun bt125 => (some (bt125.1, bt125.2.1, bt125.2.2.1, bt125.2.2.2)))
def spec_l01Parent.T1 : Bool × List (List Nat × List Nat) := (true, [([], []), ([], []), ([1], [1]), ([], []), ([], []), ([4], [4]), ([3, 5], [3, 5]), ([], []), ([7], [7]), ([8], [8]), ([0, 2, 6, 9, 6], [0, 2, 6, 9]), ([10], [10]), ([11], [11]), ([11], [11]), ([], []), ([14, 12, 10, 0, 1, 2, 3, 4, 5, 6, 7, 8, 9, 10, 11, 12, 14], [12, 14]), ([13, 15, 0, 1, 2, 3, 4, 5, 6, 7, 8, 9, 10, 11, 12, 13, 14, 15], [13])])
def spec_l01Parent.B1 : List Nat := [0, 0, 2, 0, 0, 16, 56, 0, 128, 384, 1023, 2047, 4095, 4095, 0, 24575, 65535]
theorem spec_l01Parent.tab1 : rtab .any (opsOf Try.f106 1) = spec_l01Parent.T1 := by kernel_rfl
theorem spec_l01Parent.bits1 : waitsOk spec_l01Parent.T1.2 spec_l01Parent.B1 = true := by kernel_rfl
set_option maxHeartbeats 8000000 in
set_option maxRecDepth 100000 in
theorem spec_l01Parent.calls (k : Nat) (a0 : Int) (a1_0 : Int) (a1_1 : Int) (a1_2 : Int) (r1 : Int) (r2 : Int) (r3 : Int) (r4 : Bool) (w : World) (h : spec_l01Parent.f k a0 a1_0 a1_1 a1_2 = some (r1, r2, r3, r4)) :
  Calls Try.prog 106 #[.int .i64 a0, .agg #[.int .i64 a1_0, .int .i64 a1_1, .int .i64 a1_2]] w fun e w' => e = .returned (.tuple #[.agg #[.int .i64 r1, .int .i64 r2, .int .i64 r3], .bool r4]) ∧ Below w.heap.size w w' := by
 have hu27 := Try.underlying27
 have HB := Aside0.mk (Below.refl w.heap.size w)
 unfold spec_l01Parent.f at h
 have H := h
 clear h
 replace H := zi H
 obtain ⟨t124, A3, H⟩ := H
 try dsimp only at H
 replace H := zi H
 obtain ⟨⟨t125, t126, t127, t128⟩, A4, H⟩ := H
 try dsimp only at H
 simp only [Option.some.injEq, Prod.mk.injEq] at H
 obtain ⟨rfl, rfl, rfl, rfl⟩ := H
 go_enter Try.func106, Try.ntmps106
 try go_wp2_with (first | ((with_reducible refine zg 3 rfl ?_); refine z3 3 27 a1_0 a1_1 a1_2 ?_; intro gb122 hg w5 BK122 hb; have GW122 := sg hg; replace HB := bs hb; clear hb hg) | ((with_reducible refine zg 4 rfl ?_); refine z3 4 27 0 0 0 ?_; intro gb123 hg w6 BK123 hb; have GW123 := sg hg; have NB122_123 := nl hg BK122; replace BK122 := bb BK122 hb; replace HB := bs hb; clear hb hg))
 replace BK122 := Aside0.mk (blk_drew BK122.out)
 replace BK123 := Aside0.mk (blk_drew BK123.out)
 replace HB := Aside0.mk (below_drew1 HB.out)
 refine sw 17 (fun w' => w'.cell? ⟨gb122, 0, none⟩ = some (.int .i64 a1_0) ∧ w'.cell? ⟨gb122, 1, none⟩ = some (.int .i64 a1_1) ∧ w'.cell? ⟨gb122, 2, none⟩ = some (.int .i64 a1_2)) spec_l01Parent.tab1 spec_l01Parent.bits1 (e3 BK122) (fun hHeld HT_ HW_ => ?_)
 generalize w6.drew = w7 at BK122 BK123 HB hHeld ⊢
 refine pu 0 (some 9) (tA 17 1) HT_ ?_
 refine pu 1 (some 10) (tA 17 3) HT_ ?_
 refine pu 3 (some 12) (tA 17 11) HT_ ?_
 refine pu 4 (some 13) (tA 17 27) HT_ ?_
 refine pu 7 (some 16) (tA 17 155) HT_ ?_
 refine tk3 2 (some 11) (tA 17 159) HT_ HW_ hHeld ?_
 refine tk3 5 (some 14) (tA 17 191) HT_ HW_ hHeld ?_
 refine tk3 8 (some 17) (tA 17 447) HT_ HW_ hHeld ?_
 refine pu 9 (some 18) (tA 17 959) HT_ ?_
 refine join_ (σ := Nat) 2 (tA 17 32767) (fun s_ => [(15, .int .i64 t124), (19, .tuple #[.agg #[.int .i64 t125, .int .i64 t126, .int .i64 t127], .bool t128]), (6, .pointer (some ⟨s_, 0, none⟩)), (8, .tuple #[.agg #[.int .i64 t125, .int .i64 t126, .int .i64 t127], .bool t128]), (20, .agg #[.int .i64 t125, .int .i64 t126, .int .i64 t127]), (21, .bool t128)]) (fun s_ w' => (w'.cell? ⟨gb122, 0, none⟩ = some (.int .i64 a1_0) ∧ w'.cell? ⟨gb122, 1, none⟩ = some (.int .i64 a1_1) ∧ w'.cell? ⟨gb122, 2, none⟩ = some (.int .i64 a1_2)) ∧ (w'.heap[gb122]? = some (.cells #[.int .i64 a1_0, .int .i64 a1_1, .int .i64 a1_2] 27 (0, 0))) ∧ (w'.heap[gb123]? = some (.cells #[.int .i64 0, .int .i64 0, .int .i64 0] 27 (0, 0))) ∧ (w'.heap[s_]? = some (.cells #[.int .i64 0, .int .i64 0, .int .i64 0] 27 (0, 0))) ∧ (w.heap.size ≤ s_) ∧ (w.heap.size ≤ s_) ∧ (gb122 ≠ s_) ∧ (s_ ≠ gb122) ∧ (gb123 ≠ s_) ∧ (s_ ≠ gb123) ∧ (Below w.heap.size w w')) ?_ ?_
 rotate_left
 ·intro hCont
  refine two_ (i := 6) (j := 14) (Ni := some 15) (Nj := some 6) (tA 17 1023) (tA 17 17343) rfl rfl rfl rfl (two_of HT_.out (by kernel_rfl)) (by decide) (by decide) (fun K hK => ?_) (fun K hK => ?_)
  ·skip
   refine gs Try.func96 #[.int .i64 a0, .int .i64 a1_2] ?_
   with_reducible refine (spec_l01Power.calls k a0 a1_2 t124 _ A3.out).mono ?_
   rintro e w' ⟨rfl, ⟨nd, rfl⟩⟩
   refine ⟨_, rfl, ?_⟩
   refine hK.out _ _ (e3 BK122) (fun hHeld => ?_)
   clear hK K
   refine nm (some 15) ?_
   refine two_ (i := 10) (j := 14) (Ni := some 19) (Nj := some 6) (tA 17 2047) (tA 17 17407) rfl rfl rfl rfl (two_of HT_.out (by kernel_rfl)) (by decide) (by decide) (fun K hK => ?_) (fun K hK => ?_)
   ·skip
    refine gs Try.func97 #[.int .i64 a0, .int .i64 a1_1, .int .i64 t124, .int .i64 (wrap64 (a1_0 - 1))] ?_
    with_reducible refine (spec_l01Of.calls k a0 a1_1 t124 (wrap64 (a1_0 - 1)) t125 t126 t127 t128 _ A4.out).mono ?_
    rintro e w8 ⟨rfl, hb⟩
    refine ⟨_, rfl, ?_⟩
    replace BK122 := bb BK122 hb
    replace BK123 := bb BK123 hb
    replace HB := bs hb
    (try clear hb)
    (try clear hb2)
    (try clear hk)
    (try clear hi)
    refine hK.out _ _ (e3 BK122) (fun hHeld => ?_)
    clear hK K
    refine nm (some 19) ?_
    refine pu 11 (some 8) (tA 17 4095) HT_ ?_
    refine pu 12 (some 20) (tA 17 8191) HT_ ?_
    refine pu 13 (some 21) (tA 17 16383) HT_ ?_
    refine o1 14 (some 6) (tA 17 32767) HT_ (fun K hK => ?_)
    refine box_step ?hg (N := 6) ?hd (cs := #[.int .i64 0, .int .i64 0, .int .i64 0]) (t := 27) ?hr ?_; (case hd => rfl); (case hg => rfl); (case hr => first | (go_simp; done) | (go_simp; rfl))
    intro gb129 hg w9 hbox hb
    have BK129 := Aside0.mk (hbox)
    have GW129 := Aside0.mk ((by rw [hg]; exact (below_size (bl)) : w.heap.size ≤ gb129))
    have GE129 := Aside0.mk ((by rw [hg]; exact (below_size (bl)) : w.heap.size ≤ gb129))
    have NB122_129 := nl hg BK122
    have NB129_122 := ng hg BK122
    have NB123_129 := nl hg BK123
    have NB129_123 := ng hg BK123
    replace BK122 := bb BK122 hb
    replace BK123 := bb BK123 hb
    replace HB := bs hb
    clear hb hg
    refine hK.out _ _ (e3 BK122) (fun hHeld => ?_)
    clear hK K
    refine nm (some 6) ?_
    exact norm_ (by simp only [putAll, Act.put, zq, zr, zt]) (hCont (gb129) _ ⟨hHeld, (be BK122), (be BK123), (be BK129), GW129.out, GE129.out, NB122_129.out, NB129_122.out, NB123_129.out, NB129_123.out, (bl)⟩)
   ·skip
    refine box_step ?hg (N := 6) ?hd (cs := #[.int .i64 0, .int .i64 0, .int .i64 0]) (t := 27) ?hr ?_; (case hd => rfl); (case hg => rfl); (case hr => first | (go_simp; done) | (go_simp; rfl))
    intro gb129 hg w8 hbox hb
    have BK129 := Aside0.mk (hbox)
    have GW129 := Aside0.mk ((by rw [hg]; exact (below_size (bl)) : w.heap.size ≤ gb129))
    have GE129 := Aside0.mk ((by rw [hg]; exact (below_size (bl)) : w.heap.size ≤ gb129))
    have NB122_129 := nl hg BK122
    have NB129_122 := ng hg BK122
    have NB123_129 := nl hg BK123
    have NB129_123 := ng hg BK123
    replace BK122 := bb BK122 hb
    replace BK123 := bb BK123 hb
    replace HB := bs hb
    clear hb hg
    refine hK.out _ _ (e3 BK122) (fun hHeld => ?_)
    clear hK K
    refine nm (some 6) ?_
    refine o1 10 (some 19) (tA 17 18431) HT_ (fun K hK => ?_)
    refine gs Try.func97 #[.int .i64 a0, .int .i64 a1_1, .int .i64 t124, .int .i64 (wrap64 (a1_0 - 1))] ?_
    with_reducible refine (spec_l01Of.calls k a0 a1_1 t124 (wrap64 (a1_0 - 1)) t125 t126 t127 t128 _ A4.out).mono ?_
    rintro e w9 ⟨rfl, hb⟩
    refine ⟨_, rfl, ?_⟩
    replace BK122 := bb BK122 hb
    replace BK123 := bb BK123 hb
    replace BK129 := bb BK129 hb
    replace HB := bs hb
    (try clear hb)
    (try clear hb2)
    (try clear hk)
    (try clear hi)
    refine hK.out _ _ (e3 BK122) (fun hHeld => ?_)
    clear hK K
    refine nm (some 19) ?_
    refine pu 11 (some 8) (tA 17 20479) HT_ ?_
    refine pu 12 (some 20) (tA 17 24575) HT_ ?_
    refine pu 13 (some 21) (tA 17 32767) HT_ ?_
    exact norm_ (by simp only [putAll, Act.put, zq, zr, zt]) (hCont (gb129) _ ⟨hHeld, (be BK122), (be BK123), (be BK129), GW129.out, GE129.out, NB122_129.out, NB129_122.out, NB123_129.out, NB129_123.out, (bl)⟩)
  ·skip
   refine box_step ?hg (N := 6) ?hd (cs := #[.int .i64 0, .int .i64 0, .int .i64 0]) (t := 27) ?hr ?_; (case hd => rfl); (case hg => rfl); (case hr => first | (go_simp; done) | (go_simp; rfl))
   intro gb129 hg w8 hbox hb
   have BK129 := Aside0.mk (hbox)
   have GW129 := Aside0.mk ((by rw [hg]; exact (below_size (bl)) : w.heap.size ≤ gb129))
   have GE129 := Aside0.mk ((by rw [hg]; exact (below_size (bl)) : w.heap.size ≤ gb129))
   have NB122_129 := nl hg BK122
   have NB129_122 := ng hg BK122
   have NB123_129 := nl hg BK123
   have NB129_123 := ng hg BK123
   replace BK122 := bb BK122 hb
   replace BK123 := bb BK123 hb
   replace HB := bs hb
   clear hb hg
   refine hK.out _ _ (e3 BK122) (fun hHeld => ?_)
   clear hK K
   refine nm (some 6) ?_
   refine o1 6 (some 15) (tA 17 17407) HT_ (fun K hK => ?_)
   refine gs Try.func96 #[.int .i64 a0, .int .i64 a1_2] ?_
   with_reducible refine (spec_l01Power.calls k a0 a1_2 t124 _ A3.out).mono ?_
   rintro e w' ⟨rfl, ⟨nd, rfl⟩⟩
   refine ⟨_, rfl, ?_⟩
   refine hK.out _ _ (e3 BK122) (fun hHeld => ?_)
   clear hK K
   refine nm (some 15) ?_
   refine o1 10 (some 19) (tA 17 18431) HT_ (fun K hK => ?_)
   refine gs Try.func97 #[.int .i64 a0, .int .i64 a1_1, .int .i64 t124, .int .i64 (wrap64 (a1_0 - 1))] ?_
   with_reducible refine (spec_l01Of.calls k a0 a1_1 t124 (wrap64 (a1_0 - 1)) t125 t126 t127 t128 _ A4.out).mono ?_
   rintro e w9 ⟨rfl, hb⟩
   refine ⟨_, rfl, ?_⟩
   replace BK122 := bb BK122 hb
   replace BK123 := bb BK123 hb
   replace BK129 := bb BK129 hb
   replace HB := bs hb
   (try clear hb)
   (try clear hb2)
   (try clear hk)
   (try clear hi)
   refine hK.out _ _ (e3 BK122) (fun hHeld => ?_)
   clear hK K
   refine nm (some 19) ?_
   refine pu 11 (some 8) (tA 17 20479) HT_ ?_
   refine pu 12 (some 20) (tA 17 24575) HT_ ?_
   refine pu 13 (some 21) (tA 17 32767) HT_ ?_
   exact norm_ (by simp only [putAll, Act.put, zq, zr, zt]) (hCont (gb129) _ ⟨hHeld, (be BK122), (be BK123), (be BK129), GW129.out, GE129.out, NB122_129.out, NB129_122.out, NB123_129.out, NB129_123.out, (bl)⟩)
 rintro gb129 w10 ⟨hS_, h0_, h1_, h2_, h3_, h4_, h5_, h6_, h7_, h8_, h9_⟩
 have n0_ : Aside0 (w10.heap[gb122]? = some (.cells #[.int .i64 a1_0, .int .i64 a1_1, .int .i64 a1_2] 27 (0, 0))) := ⟨h0_⟩
 have n1_ : Aside0 (w10.heap[gb123]? = some (.cells #[.int .i64 0, .int .i64 0, .int .i64 0] 27 (0, 0))) := ⟨h1_⟩
 have n2_ : Aside0 (w10.heap[gb129]? = some (.cells #[.int .i64 0, .int .i64 0, .int .i64 0] 27 (0, 0))) := ⟨h2_⟩
 have n3_ : Aside0 (w.heap.size ≤ gb129) := ⟨h3_⟩
 have n4_ : Aside0 (w.heap.size ≤ gb129) := ⟨h4_⟩
 have n5_ : Aside0 (gb122 ≠ gb129) := ⟨h5_⟩
 have n6_ : Aside0 (gb129 ≠ gb122) := ⟨h6_⟩
 have n7_ : Aside0 (gb123 ≠ gb129) := ⟨h7_⟩
 have n8_ : Aside0 (gb129 ≠ gb123) := ⟨h8_⟩
 have n9_ : Aside0 (Below w.heap.size w w10) := ⟨h9_⟩
 clear BK122
 clear BK123
 clear HB
 clear h0_ h1_ h2_ h3_ h4_ h5_ h6_ h7_ h8_ h9_
 have BK122 := n0_
 have BK123 := n1_
 have BK129 := n2_
 have GW129 := n3_
 have GE129 := n4_
 have NB122_129 := n5_
 have NB129_122 := n6_
 have NB123_129 := n7_
 have NB129_123 := n8_
 have HB := n9_
 clear n0_ n1_ n2_ n3_ n4_ n5_ n6_ n7_ n8_ n9_
 have hHeld : w10.cell? ⟨gb122, 0, none⟩ = some (.int .i64 a1_0) ∧ w10.cell? ⟨gb122, 1, none⟩ = some (.int .i64 a1_1) ∧ w10.cell? ⟨gb122, 2, none⟩ = some (.int .i64 a1_2) := hS_
 refine norm_ (a' := ?_) ?_ ?_
 rotate_left
 ·simp only [putAll, Act.put, zq, zr, zt]
  rfl
 refine o1 15 none (tA 17 65535) HT_ (fun K hK => ?_)
 have hs11 : w10.cell? ⟨gb129, 0, none⟩ = some (.int .i64 0) := (blk_cell BK129.out 0).trans rfl
 have hfs11 := blk_frozen BK129.out 0
 have hns11_0 := NB122_129.out
 have hns11_1 := NB123_129.out
 have hms11_0 := NB129_122.out
 have hms11_1 := NB129_123.out
 have hs12 : w10.cell? ⟨gb129, 1, none⟩ = some (.int .i64 0) := (blk_cell BK129.out 1).trans rfl
 have hfs12 := blk_frozen BK129.out 1
 have hns12_0 := NB122_129.out
 have hns12_1 := NB123_129.out
 have hms12_0 := NB129_122.out
 have hms12_1 := NB129_123.out
 have hs13 : w10.cell? ⟨gb129, 2, none⟩ = some (.int .i64 0) := (blk_cell BK129.out 2).trans rfl
 have hfs13 := blk_frozen BK129.out 2
 have hns13_0 := NB122_129.out
 have hns13_1 := NB123_129.out
 have hms13_0 := NB129_122.out
 have hms13_1 := NB129_123.out
 refine skip_ (w1 := ?_) (by rfl) rfl ?_ ?_
 rotate_left
 ·go_simp
  rfl
 refine hK.out _ _ (m3 hHeld (fun e => cf gb129 NB122_129 (cf gb129 NB122_129 (cf gb129 NB122_129 e)))) (fun hHeld => ?_)
 clear hK K
 refine pu 16 (some 7) (tA 17 131071) HT_ ?_
 refine done_ (done_of HT_.out (by kernel_rfl)) ?_
 have hnb14 := NB129_122.out
 have hnc14 := NB122_129.out
 have hnb15 := NB129_123.out
 have hnc15 := NB123_129.out
 obtain ⟨hcz16_0, hcz16_1, hcz16_2, hfz16_0, hfz16_1, hfz16_2⟩ := cq3 BK129
 obtain ⟨hnb17, hnc17⟩ := zm NB122_123
 obtain ⟨hcz18_0, hcz18_1, hcz18_2, hfz18_0, hfz18_1, hfz18_2⟩ := cq3 BK123
 try go_wp2
 refine bodyPost_ret (results_ct rfl _ _ gb123 27 #[.int .i64 t125, .int .i64 t126, .int .i64 t127] (0, 0) _ rfl (bp) Try.underlying27 rfl (by kernel_rfl)) rfl ?_
 exact ⟨er, bl⟩

/-! ### spec_l01Child: function 146 -/
def spec_l01Child.f (k : Nat) (a0 : Int) (a1_0 : Int) (a1_1 : Int) (a1_2 : Int) (a2 : Int) : Option (Int × Int × Int × Bool) := if a1_0 = 6 then (some (0, 0, 0, false)) else ((spec_l01Power.f k a0 a1_2).bind fun t132 => (if a1_0 ≥ 0 then ((spec_l01Power.f k a0 a1_0).bind fun t133 => ((spec_l01Of.f k a0 (wrap64 (a1_1 + (wrap64 ((wrap64 (a2 * t132)) * t133)))) t132 (wrap64 (a1_0 + 1))).bind fun bt134 => (some (bt134.1, bt134.2.1, bt134.2.2.1, bt134.2.2.2)))) else ((spec_l01Power.f k a0 (wrap64 (-a1_0))).bind fun t139 => (if t132 = 0 then (none) else ((spec_l01Power.f k a0 (wrap64 (-a1_0))).bind fun t140 => (if t140 = 0 then (none) else ((spec_l01Of.f k a0 (wrap64 ((wrap64 (a1_1 * (wrap64 (Int.tdiv (mx t132 t139) t132)))) + (wrap64 (a2 * (wrap64 (Int.tdiv (mx t132 t139) t140)))))) (mx t132 t139) (wrap64 (a1_0 + 1))).bind fun bt141 => (some (bt141.1, bt141.2.1, bt141.2.2.1, bt141.2.2.2)))))))))
set_option maxHeartbeats 8000000 in
set_option maxRecDepth 100000 in
theorem spec_l01Child.calls (k : Nat) (a0 : Int) (a1_0 : Int) (a1_1 : Int) (a1_2 : Int) (a2 : Int) (r1 : Int) (r2 : Int) (r3 : Int) (r4 : Bool) (w : World) (h : spec_l01Child.f k a0 a1_0 a1_1 a1_2 a2 = some (r1, r2, r3, r4)) :
  Calls Try.prog 146 #[.int .i64 a0, .agg #[.int .i64 a1_0, .int .i64 a1_1, .int .i64 a1_2], .int .i64 a2] w fun e w' => e = .returned (.tuple #[.agg #[.int .i64 r1, .int .i64 r2, .int .i64 r3], .bool r4]) ∧ Below w.heap.size w w' := by
 have hu27 := Try.underlying27
 have HB := Aside0.mk (Below.refl w.heap.size w)
 unfold spec_l01Child.f at h
 have H := h
 clear h
 replace H := ii H
 rcases H with ⟨c4, H⟩ | ⟨c4, H⟩
 ·obtain ⟨c4b0, c4b1⟩ := zz c4
  clear c4
  simp only [Option.some.injEq, Prod.mk.injEq] at H
  obtain ⟨rfl, rfl, rfl, rfl⟩ := H
  go_enter Try.func146, Try.ntmps146
  go_wp2_with (first | ((with_reducible refine zg 4 rfl ?_); refine z3 4 27 a1_0 a1_1 a1_2 ?_; intro gb130 hg w5 BK130 hb; have GW130 := sg hg; replace HB := bs hb; clear hb hg) | ((with_reducible refine zg 6 rfl ?_); refine z3 6 27 0 0 0 ?_; intro gb131 hg w6 BK131 hb; have GW131 := sg hg; have NB130_131 := nl hg BK130; replace BK130 := bb BK130 hb; replace HB := bs hb; clear hb hg; obtain ⟨hnb7, hnc7⟩ := zn NB130_131; obtain ⟨hcz8_0, hcz8_1, hcz8_2, hfz8_0, hfz8_1, hfz8_2⟩ := cq3 BK130; obtain ⟨hcz9_0, hcz9_1, hcz9_2, hfz9_0, hfz9_1, hfz9_2⟩ := cq3 BK131))
  repeat (go_quiet (fail); try go_wp2_with (first | ((with_reducible refine zg 4 rfl ?_); refine z3 4 27 a1_0 a1_1 a1_2 ?_; intro gb130 hg w5 BK130 hb; have GW130 := sg hg; replace HB := bs hb; clear hb hg) | ((with_reducible refine zg 6 rfl ?_); refine z3 6 27 0 0 0 ?_; intro gb131 hg w6 BK131 hb; have GW131 := sg hg; have NB130_131 := nl hg BK130; replace BK130 := bb BK130 hb; replace HB := bs hb; clear hb hg; obtain ⟨hnb7, hnc7⟩ := zn NB130_131; obtain ⟨hcz8_0, hcz8_1, hcz8_2, hfz8_0, hfz8_1, hfz8_2⟩ := cq3 BK130; obtain ⟨hcz9_0, hcz9_1, hcz9_2, hfz9_0, hfz9_1, hfz9_2⟩ := cq3 BK131)))
  refine bodyPost_ret (results_ct rfl _ _ gb131 27 #[.int .i64 0, .int .i64 0, .int .i64 0] (0, 0) _ rfl (bp) Try.underlying27 rfl (by kernel_rfl)) rfl ?_
  exact ⟨er, bl⟩
 ·obtain ⟨c4b0, c4b1⟩ := zy c4
  replace H := zi H
  obtain ⟨t132, A10, H⟩ := H
  try dsimp only at H
  replace H := ii H
  rcases H with ⟨c11, H⟩ | ⟨c11, H⟩
  ·have c11b0 := decide_eq_true c11
   clear c11
   replace H := zi H
   obtain ⟨t133, A12, H⟩ := H
   try dsimp only at H
   replace H := zi H
   obtain ⟨⟨t134, t135, t136, t137⟩, A13, H⟩ := H
   try dsimp only at H
   simp only [Option.some.injEq, Prod.mk.injEq] at H
   obtain ⟨rfl, rfl, rfl, rfl⟩ := H
   go_enter Try.func146, Try.ntmps146
   go_wp2_with (first | ((with_reducible refine zg 4 rfl ?_); refine z3 4 27 a1_0 a1_1 a1_2 ?_; intro gb130 hg w14 BK130 hb; have GW130 := sg hg; replace HB := bs hb; clear hb hg) | ((with_reducible refine zg 6 rfl ?_); refine z3 6 27 0 0 0 ?_; intro gb131 hg w15 BK131 hb; have GW131 := sg hg; have NB130_131 := nl hg BK130; replace BK130 := bb BK130 hb; replace HB := bs hb; clear hb hg; obtain ⟨hnb16, hnc16⟩ := zn NB130_131; obtain ⟨hcz17_0, hcz17_1, hcz17_2, hfz17_0, hfz17_1, hfz17_2⟩ := cq3 BK130) | (go_at_call 96; (with_reducible refine (spec_l01Power.calls k a0 a1_2 t132 _ A10.out).mono ?_); rintro e w' ⟨rfl, ⟨nd, rfl⟩⟩; (try first | exact zd | exact ze)) | (go_at_call 96; (with_reducible refine (spec_l01Power.calls k a0 a1_0 t133 _ A12.out).mono ?_); rintro e w' ⟨rfl, ⟨nd, rfl⟩⟩; (try first | exact zd | exact ze)) | (go_at_call 97; (with_reducible refine (spec_l01Of.calls k a0 (wrap64 (a1_1 + (wrap64 ((wrap64 (a2 * t132)) * t133)))) t132 (wrap64 (a1_0 + 1)) t134 t135 t136 t137 _ A13.out).mono ?_); rintro e w18 ⟨rfl, hb⟩; replace BK130 := bb BK130 hb; replace BK131 := bb BK131 hb; replace HB := bs hb; (try clear hb)) | ((with_reducible refine zg 11 rfl ?_); refine z3 11 27 0 0 0 ?_; intro gb138 hg w19 BK138 hb; have GW138 := sg hg; have NB130_138 := nl hg BK130; have NB131_138 := nl hg BK131; replace BK130 := bb BK130 hb; replace BK131 := bb BK131 hb; replace HB := bs hb; clear hb hg; obtain ⟨hnb20, hnc20⟩ := zm NB130_138; obtain ⟨hnb21, hnc21⟩ := zm NB131_138; obtain ⟨hcz22_0, hcz22_1, hcz22_2, hfz22_0, hfz22_1, hfz22_2⟩ := cq3 BK138; obtain ⟨hcz23_0, hcz23_1, hcz23_2, hfz23_0, hfz23_1, hfz23_2⟩ := cq3 BK131))
   repeat (go_quiet (first | (go_at_call 96; (with_reducible refine (spec_l01Power.calls k a0 a1_2 t132 _ A10.out).mono ?_); rintro e w' ⟨rfl, ⟨nd, rfl⟩⟩; (try first | exact zd | exact ze)) | (go_at_call 96; (with_reducible refine (spec_l01Power.calls k a0 a1_0 t133 _ A12.out).mono ?_); rintro e w' ⟨rfl, ⟨nd, rfl⟩⟩; (try first | exact zd | exact ze)) | (go_at_call 97; (with_reducible refine (spec_l01Of.calls k a0 (wrap64 (a1_1 + (wrap64 ((wrap64 (a2 * t132)) * t133)))) t132 (wrap64 (a1_0 + 1)) t134 t135 t136 t137 _ A13.out).mono ?_); rintro e w18 ⟨rfl, hb⟩; replace BK130 := bb BK130 hb; replace BK131 := bb BK131 hb; replace HB := bs hb; (try clear hb))); try go_wp2_with (first | ((with_reducible refine zg 4 rfl ?_); refine z3 4 27 a1_0 a1_1 a1_2 ?_; intro gb130 hg w14 BK130 hb; have GW130 := sg hg; replace HB := bs hb; clear hb hg) | ((with_reducible refine zg 6 rfl ?_); refine z3 6 27 0 0 0 ?_; intro gb131 hg w15 BK131 hb; have GW131 := sg hg; have NB130_131 := nl hg BK130; replace BK130 := bb BK130 hb; replace HB := bs hb; clear hb hg; obtain ⟨hnb16, hnc16⟩ := zn NB130_131; obtain ⟨hcz17_0, hcz17_1, hcz17_2, hfz17_0, hfz17_1, hfz17_2⟩ := cq3 BK130) | (go_at_call 96; (with_reducible refine (spec_l01Power.calls k a0 a1_2 t132 _ A10.out).mono ?_); rintro e w' ⟨rfl, ⟨nd, rfl⟩⟩; (try first | exact zd | exact ze)) | (go_at_call 96; (with_reducible refine (spec_l01Power.calls k a0 a1_0 t133 _ A12.out).mono ?_); rintro e w' ⟨rfl, ⟨nd, rfl⟩⟩; (try first | exact zd | exact ze)) | (go_at_call 97; (with_reducible refine (spec_l01Of.calls k a0 (wrap64 (a1_1 + (wrap64 ((wrap64 (a2 * t132)) * t133)))) t132 (wrap64 (a1_0 + 1)) t134 t135 t136 t137 _ A13.out).mono ?_); rintro e w18 ⟨rfl, hb⟩; replace BK130 := bb BK130 hb; replace BK131 := bb BK131 hb; replace HB := bs hb; (try clear hb)) | ((with_reducible refine zg 11 rfl ?_); refine z3 11 27 0 0 0 ?_; intro gb138 hg w19 BK138 hb; have GW138 := sg hg; have NB130_138 := nl hg BK130; have NB131_138 := nl hg BK131; replace BK130 := bb BK130 hb; replace BK131 := bb BK131 hb; replace HB := bs hb; clear hb hg; obtain ⟨hnb20, hnc20⟩ := zm NB130_138; obtain ⟨hnb21, hnc21⟩ := zm NB131_138; obtain ⟨hcz22_0, hcz22_1, hcz22_2, hfz22_0, hfz22_1, hfz22_2⟩ := cq3 BK138; obtain ⟨hcz23_0, hcz23_1, hcz23_2, hfz23_0, hfz23_1, hfz23_2⟩ := cq3 BK131)))
   refine bodyPost_ret (results_ct rfl _ _ gb131 27 #[.int .i64 t134, .int .i64 t135, .int .i64 t136] (0, 0) _ rfl (bp) Try.underlying27 rfl (by kernel_rfl)) rfl ?_
   exact ⟨er, bl⟩
  ·have c11b0 := decide_eq_false c11
   clear c11
   replace H := zi H
   obtain ⟨t139, A24, H⟩ := H
   try dsimp only at H
   obtain ⟨ji25, hji25⟩ : ∃ j_ : Int, (mx t132 t139) = j_ := ⟨_, rfl⟩
   replace H : (if t132 = 0 then (none) else ((spec_l01Power.f k a0 (wrap64 (-a1_0))).bind fun t140 => (if t140 = 0 then (none) else ((spec_l01Of.f k a0 (wrap64 ((wrap64 (a1_1 * (wrap64 (Int.tdiv (ji25) t132)))) + (wrap64 (a2 * (wrap64 (Int.tdiv (ji25) t140)))))) (ji25) (wrap64 (a1_0 + 1))).bind fun bt141 => (some (bt141.1, bt141.2.1, bt141.2.2.1, bt141.2.2.2)))))) = some (r1, r2, r3, r4) := by first | (rw [hji25] at H; exact H) | (simp only [hji25] at H ⊢; exact H)
   (try rw [hji25] at A10)
   (try rw [hji25] at A24)
   have hji25_ : (if t132 < t139 then t139 else t132) = ji25 := hji25
   replace H := ii H
   rcases H with ⟨c26, H⟩ | ⟨c26, H⟩
   ·exact absurd H (by simp)
   ·obtain ⟨c26b0, c26b1⟩ := zy c26
    replace H := Option.bind_eq_some_iff.mp H
    obtain ⟨t140, A270, H⟩ := H
    have hsame_ : t139 = t140 := Option.some.inj (A24.out.symm.trans A270)
    subst hsame_
    try dsimp only at H
    have A27 := Aside0.mk A270
    clear A270
    replace H := ii H
    rcases H with ⟨c28, H⟩ | ⟨c28, H⟩
    ·exact absurd H (by simp)
    ·obtain ⟨c28b0, c28b1⟩ := zy c28
     replace H := zi H
     obtain ⟨⟨t141, t142, t143, t144⟩, A29, H⟩ := H
     try dsimp only at H
     simp only [Option.some.injEq, Prod.mk.injEq] at H
     obtain ⟨rfl, rfl, rfl, rfl⟩ := H
     go_enter Try.func146, Try.ntmps146
     go_wp2_with (first | ((with_reducible refine zg 4 rfl ?_); refine z3 4 27 a1_0 a1_1 a1_2 ?_; intro gb130 hg w30 BK130 hb; have GW130 := sg hg; replace HB := bs hb; clear hb hg) | ((with_reducible refine zg 6 rfl ?_); refine z3 6 27 0 0 0 ?_; intro gb131 hg w31 BK131 hb; have GW131 := sg hg; have NB130_131 := nl hg BK130; replace BK130 := bb BK130 hb; replace HB := bs hb; clear hb hg; obtain ⟨hnb32, hnc32⟩ := zn NB130_131; obtain ⟨hcz33_0, hcz33_1, hcz33_2, hfz33_0, hfz33_1, hfz33_2⟩ := cq3 BK130) | (go_at_call 96; (with_reducible refine (spec_l01Power.calls k a0 a1_2 t132 _ A10.out).mono ?_); rintro e w' ⟨rfl, ⟨nd, rfl⟩⟩; (try first | exact zd | exact ze)) | (go_at_call 96; (with_reducible refine (spec_l01Power.calls k a0 (wrap64 (-a1_0)) t139 _ A24.out).mono ?_); rintro e w' ⟨rfl, ⟨nd, rfl⟩⟩; (try first | exact zd | exact ze)) | (go_at_call 96; (with_reducible refine (spec_l01Power.calls k a0 (wrap64 (-a1_0)) t139 _ A27.out).mono ?_); rintro e w' ⟨rfl, ⟨nd, rfl⟩⟩; (try first | exact zd | exact ze)) | (go_at_call 97; (with_reducible refine (spec_l01Of.calls k a0 (wrap64 ((wrap64 (a1_1 * (wrap64 (Int.tdiv (ji25) t132)))) + (wrap64 (a2 * (wrap64 (Int.tdiv (ji25) t139)))))) ji25 (wrap64 (a1_0 + 1)) t141 t142 t143 t144 _ A29.out).mono ?_); rintro e w34 ⟨rfl, hb⟩; replace BK130 := bb BK130 hb; replace BK131 := bb BK131 hb; replace HB := bs hb; (try clear hb)) | ((with_reducible refine zg 11 rfl ?_); refine z3 11 27 0 0 0 ?_; intro gb145 hg w35 BK145 hb; have GW145 := sg hg; have NB130_145 := nl hg BK130; have NB131_145 := nl hg BK131; replace BK130 := bb BK130 hb; replace BK131 := bb BK131 hb; replace HB := bs hb; clear hb hg; obtain ⟨hnb36, hnc36⟩ := zm NB130_145; obtain ⟨hnb37, hnc37⟩ := zm NB131_145; obtain ⟨hcz38_0, hcz38_1, hcz38_2, hfz38_0, hfz38_1, hfz38_2⟩ := cq3 BK145; obtain ⟨hcz39_0, hcz39_1, hcz39_2, hfz39_0, hfz39_1, hfz39_2⟩ := cq3 BK131))
     repeat (go_quiet (first | (go_at_call 96; (with_reducible refine (spec_l01Power.calls k a0 a1_2 t132 _ A10.out).mono ?_); rintro e w' ⟨rfl, ⟨nd, rfl⟩⟩; (try first | exact zd | exact ze)) | (go_at_call 96; (with_reducible refine (spec_l01Power.calls k a0 (wrap64 (-a1_0)) t139 _ A24.out).mono ?_); rintro e w' ⟨rfl, ⟨nd, rfl⟩⟩; (try first | exact zd | exact ze)) | (go_at_call 96; (with_reducible refine (spec_l01Power.calls k a0 (wrap64 (-a1_0)) t139 _ A27.out).mono ?_); rintro e w' ⟨rfl, ⟨nd, rfl⟩⟩; (try first | exact zd | exact ze)) | (go_at_call 97; (with_reducible refine (spec_l01Of.calls k a0 (wrap64 ((wrap64 (a1_1 * (wrap64 (Int.tdiv (ji25) t132)))) + (wrap64 (a2 * (wrap64 (Int.tdiv (ji25) t139)))))) ji25 (wrap64 (a1_0 + 1)) t141 t142 t143 t144 _ A29.out).mono ?_); rintro e w34 ⟨rfl, hb⟩; replace BK130 := bb BK130 hb; replace BK131 := bb BK131 hb; replace HB := bs hb; (try clear hb))); try go_wp2_with (first | ((with_reducible refine zg 4 rfl ?_); refine z3 4 27 a1_0 a1_1 a1_2 ?_; intro gb130 hg w30 BK130 hb; have GW130 := sg hg; replace HB := bs hb; clear hb hg) | ((with_reducible refine zg 6 rfl ?_); refine z3 6 27 0 0 0 ?_; intro gb131 hg w31 BK131 hb; have GW131 := sg hg; have NB130_131 := nl hg BK130; replace BK130 := bb BK130 hb; replace HB := bs hb; clear hb hg; obtain ⟨hnb32, hnc32⟩ := zn NB130_131; obtain ⟨hcz33_0, hcz33_1, hcz33_2, hfz33_0, hfz33_1, hfz33_2⟩ := cq3 BK130) | (go_at_call 96; (with_reducible refine (spec_l01Power.calls k a0 a1_2 t132 _ A10.out).mono ?_); rintro e w' ⟨rfl, ⟨nd, rfl⟩⟩; (try first | exact zd | exact ze)) | (go_at_call 96; (with_reducible refine (spec_l01Power.calls k a0 (wrap64 (-a1_0)) t139 _ A24.out).mono ?_); rintro e w' ⟨rfl, ⟨nd, rfl⟩⟩; (try first | exact zd | exact ze)) | (go_at_call 96; (with_reducible refine (spec_l01Power.calls k a0 (wrap64 (-a1_0)) t139 _ A27.out).mono ?_); rintro e w' ⟨rfl, ⟨nd, rfl⟩⟩; (try first | exact zd | exact ze)) | (go_at_call 97; (with_reducible refine (spec_l01Of.calls k a0 (wrap64 ((wrap64 (a1_1 * (wrap64 (Int.tdiv (ji25) t132)))) + (wrap64 (a2 * (wrap64 (Int.tdiv (ji25) t139)))))) ji25 (wrap64 (a1_0 + 1)) t141 t142 t143 t144 _ A29.out).mono ?_); rintro e w34 ⟨rfl, hb⟩; replace BK130 := bb BK130 hb; replace BK131 := bb BK131 hb; replace HB := bs hb; (try clear hb)) | ((with_reducible refine zg 11 rfl ?_); refine z3 11 27 0 0 0 ?_; intro gb145 hg w35 BK145 hb; have GW145 := sg hg; have NB130_145 := nl hg BK130; have NB131_145 := nl hg BK131; replace BK130 := bb BK130 hb; replace BK131 := bb BK131 hb; replace HB := bs hb; clear hb hg; obtain ⟨hnb36, hnc36⟩ := zm NB130_145; obtain ⟨hnb37, hnc37⟩ := zm NB131_145; obtain ⟨hcz38_0, hcz38_1, hcz38_2, hfz38_0, hfz38_1, hfz38_2⟩ := cq3 BK145; obtain ⟨hcz39_0, hcz39_1, hcz39_2, hfz39_0, hfz39_1, hfz39_2⟩ := cq3 BK131)))
     refine bodyPost_ret (results_ct rfl _ _ gb131 27 #[.int .i64 t141, .int .i64 t142, .int .i64 t143] (0, 0) _ rfl (bp) Try.underlying27 rfl (by kernel_rfl)) rfl ?_
     exact ⟨by first | rfl | (simp [errW_none, errW_some] <;> rfl) | (simp only [← hji25]; first | rfl | (simp [errW_none, errW_some] <;> rfl)) | (simp [*, errW_none, errW_some] <;> rfl), bl⟩

end Go.Proofs.Ytpmepopagapeiaa.PFnMedians

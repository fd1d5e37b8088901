-- Printed by the kit's print and repaired by a program of this session.
import Derived.Test.YtpmepopagapeiaaPFnTreeDistancesx0
import Derived.Test.YtpmepopagapeiaaPFnTreeDistancesx2
namespace Go.Proofs.Ytpmepopagapeiaa.PFnTreeDistances
open Go.RowKit Go.Proofs.YtpmepopagapeiaaW.PrintWords Go.Proofs.YtpmepopagapeiaaW.PrintLast Go.Proofs.YtpmepopagapeiaaW.PrintMore
attribute [local go_sem] max2_int min2_int max_two min_two max_three min_three max_four min_four   -- for this text's walks alone
set_option linter.unusedVariables false
set_option linter.unusedSimpArgs false

/-! ### spec_l01Of: function 97 -/
def spec_l01Of.f (k : Nat) (a0 : Int) (a1 : Int) (a2 : Int) (a3 : Int) : Option (Int × Int × Int × Bool) := (spec_l01In.f a3 (-6) 6).bind fun t111 => (if t111 = true then (if a1 = 0 then (some (a3, 0, 0, true)) else ((spec_l01Val.f k a0 a1).bind fun t113 => ((spec_l01Val.f k a0 a2).bind fun t114 => (if a3 ≤ (wrap64 (t113 - t114)) then (some (a3, 0, 0, true)) else (if (mx (wrap64 (t114 - t113)) 0) > 6 then (some (0, 0, 0, false)) else ((spec_l01Power.f k a0 (wrap64 (a3 + (mx (wrap64 (t114 - t113)) 0)))).bind fun t115 => ((spec_l01Power.f k a0 t113).bind fun t116 => (if t116 = 0 then (none) else ((spec_l01Power.f k a0 t114).bind fun t117 => (if t117 = 0 then (none) else ((spec_l01InvMod.f k (wrap64 (Int.tdiv a2 t117)) t115).bind fun t118 => ((spec_l01MulMod.f (wrap64 (Int.tdiv a1 t116)) t118 t115).bind fun t119 => ((spec_l01Power.f k a0 (mx (wrap64 (t113 - t114)) 0)).bind fun t120 => ((spec_l01MulMod.f t119 t120 t115).bind fun t121 => (some (a3, t121, mx (wrap64 (t114 - t113)) 0, true)))))))))))))))) else (some (0, 0, 0, false)))
theorem spec_l01Of.mono : ∀ a0 a1 a2 a3 k, LeO (spec_l01Of.f k a0 a1 a2 a3) (spec_l01Of.f (k + 1) a0 a1 a2 a3) := by
 intro a0 a1 a2 a3 k
 unfold spec_l01Of.f
 repeat' first
   | (with_reducible exact spec_l01InvMod.mono _ _ _)
   | (with_reducible exact spec_l01Power.mono _ _ _)
   | (with_reducible exact spec_l01Val.mono _ _ _)
   | (with_reducible exact LeO.refl _)
   | (with_reducible exact LeO.none _)
   | (with_reducible refine LeO.ite ?_ ?_)
   | (with_reducible refine LeO.bind ?_ (fun _ => ?_))
   | refine LeO.ite ?_ ?_
   | refine LeO.bind ?_ (fun _ => ?_)
set_option maxHeartbeats 8000000 in
set_option maxRecDepth 100000 in
theorem spec_l01Of.calls (k : Nat) (a0 : Int) (a1 : Int) (a2 : Int) (a3 : Int) (r1 : Int) (r2 : Int) (r3 : Int) (r4 : Bool) (w : World) (h : spec_l01Of.f k a0 a1 a2 a3 = some (r1, r2, r3, r4)) :
  Calls Try.prog 97 #[.int .i64 a0, .int .i64 a1, .int .i64 a2, .int .i64 a3] w fun e w' => e = .returned (.tuple #[.agg #[.int .i64 r1, .int .i64 r2, .int .i64 r3], .bool r4]) ∧ Below w.heap.size w w' := by
 have hu27 := Try.underlying27
 have HB := Aside0.mk (Below.refl w.heap.size w)
 have H : ((spec_l01In.f a3 (-6) 6).bind fun t111 => (if t111 = true then (if a1 = 0 then (some (a3, 0, 0, true)) else ((spec_l01Val.f k a0 a1).bind fun t113 => ((spec_l01Val.f k a0 a2).bind fun t114 => (if a3 ≤ (wrap64 (t113 - t114)) then (some (a3, 0, 0, true)) else (if (mx (wrap64 (t114 - t113)) 0) > 6 then (some (0, 0, 0, false)) else ((spec_l01Power.f k a0 (wrap64 (a3 + (mx (wrap64 (t114 - t113)) 0)))).bind fun t115 => ((spec_l01Power.f k a0 t113).bind fun t116 => (if t116 = 0 then (none) else ((spec_l01Power.f k a0 t114).bind fun t117 => (if t117 = 0 then (none) else ((spec_l01InvMod.f k (wrap64 (Int.tdiv a2 t117)) t115).bind fun t118 => ((spec_l01MulMod.f (wrap64 (Int.tdiv a1 t116)) t118 t115).bind fun t119 => ((spec_l01Power.f k a0 (mx (wrap64 (t113 - t114)) 0)).bind fun t120 => ((spec_l01MulMod.f t119 t120 t115).bind fun t121 => (some (a3, t121, mx (wrap64 (t114 - t113)) 0, true)))))))))))))))) else (some (0, 0, 0, false)))) = some (r1, r2, r3, r4) := h
 clear h
 replace H := Option.bind_eq_some_iff.mp H
 obtain ⟨t111, A50, H⟩ := H
 replace H : (if t111 = true then (if a1 = 0 then (some (a3, 0, 0, true)) else ((spec_l01Val.f k a0 a1).bind fun t113 => ((spec_l01Val.f k a0 a2).bind fun t114 => (if a3 ≤ (wrap64 (t113 - t114)) then (some (a3, 0, 0, true)) else (if (mx (wrap64 (t114 - t113)) 0) > 6 then (some (0, 0, 0, false)) else ((spec_l01Power.f k a0 (wrap64 (a3 + (mx (wrap64 (t114 - t113)) 0)))).bind fun t115 => ((spec_l01Power.f k a0 t113).bind fun t116 => (if t116 = 0 then (none) else ((spec_l01Power.f k a0 t114).bind fun t117 => (if t117 = 0 then (none) else ((spec_l01InvMod.f k (wrap64 (Int.tdiv a2 t117)) t115).bind fun t118 => ((spec_l01MulMod.f (wrap64 (Int.tdiv a1 t116)) t118 t115).bind fun t119 => ((spec_l01Power.f k a0 (mx (wrap64 (t113 - t114)) 0)).bind fun t120 => ((spec_l01MulMod.f t119 t120 t115).bind fun t121 => (some (a3, t121, mx (wrap64 (t114 - t113)) 0, true)))))))))))))))) else (some (0, 0, 0, false))) = some (r1, r2, r3, r4) := H
 have A5 := Aside0.mk A50
 clear A50
 by_cases c6 : t111 = true
 ·subst c6
  have H1 : (if a1 = 0 then (some (a3, 0, 0, true)) else ((spec_l01Val.f k a0 a1).bind fun t113 => ((spec_l01Val.f k a0 a2).bind fun t114 => (if a3 ≤ (wrap64 (t113 - t114)) then (some (a3, 0, 0, true)) else (if (mx (wrap64 (t114 - t113)) 0) > 6 then (some (0, 0, 0, false)) else ((spec_l01Power.f k a0 (wrap64 (a3 + (mx (wrap64 (t114 - t113)) 0)))).bind fun t115 => ((spec_l01Power.f k a0 t113).bind fun t116 => (if t116 = 0 then (none) else ((spec_l01Power.f k a0 t114).bind fun t117 => (if t117 = 0 then (none) else ((spec_l01InvMod.f k (wrap64 (Int.tdiv a2 t117)) t115).bind fun t118 => ((spec_l01MulMod.f (wrap64 (Int.tdiv a1 t116)) t118 t115).bind fun t119 => ((spec_l01Power.f k a0 (mx (wrap64 (t113 - t114)) 0)).bind fun t120 => ((spec_l01MulMod.f t119 t120 t115).bind fun t121 => (some (a3, t121, mx (wrap64 (t114 - t113)) 0, true)))))))))))))))) = some (r1, r2, r3, r4) := by rw [if_pos rfl] at H; exact H
  clear H
  have H := H1
  clear H1
  by_cases c7 : a1 = 0
  ·rw [if_pos c7] at H
   have c7b0 : (a1 == 0) = true := beq_iff_eq.mpr c7
   have c7b1 : (a1 != 0) = false := bne_eq_false_iff_eq.mpr c7
   clear c7
   simp only [Option.some.injEq, Prod.mk.injEq] at H
   obtain ⟨rfl, rfl, rfl, rfl⟩ := H
   go_enter Try.func97, Try.ntmps97
   go_wp2_with (first | ((with_reducible refine gate_dst (N := 8) rfl ?_); refine bx (N := 8) (cs := #[.int .i64 0, .int .i64 0, .int .i64 0]) (t := 27) ?_; intro gb110 hg w8 hbox hb; have BK110 := Aside0.mk (hbox); have GW110 := sg hg; have GE110 := sg hg; replace HB := bs hb; clear hb hbox hg) | ((with_reducible refine gate_callee (f := 88) rfl ?_); refine g1 (some 15) Try.func88 #[.int .i64 a3, .int .i64 (-6), .int .i64 6] ?_; (with_reducible refine (spec_l01In.calls a3 (-6) 6 true _ A5.out).mono ?_); rintro e w' ⟨rfl, ⟨nd, rfl⟩⟩; refine ⟨_, rfl, ?_⟩; (try (rw [drewN_self w8]; generalize hq_ : World.drewN w8 _ = w8; have n0_ : Aside0 (w8.heap[gb110]? = some (.cells #[.int .i64 0, .int .i64 0, .int .i64 0] 27 (0, 0))) := ⟨by rw [← hq_]; exact (be BK110)⟩; have n1_ : Aside0 (Below w.heap.size w w8) := ⟨by rw [← hq_]; exact (by repeat (first | (with_reducible first | exact HB.out | apply below_alloc | apply pw_below_drewN | apply below_drew1 | refine below_set ?_ GE110.out) | exact HB.out))⟩; clear BK110 HB hq_; have BK110 := n0_; have HB := n1_; clear n0_ n1_))) | ((with_reducible refine gate_dst (N := 10) rfl ?_); refine bx (N := 10) (cs := #[.int .i64 0, .int .i64 0, .int .i64 0]) (t := 27) ?_; intro gb112 hg w9 hbox hb; have BK112 := Aside0.mk (hbox); have GW112 := sg hg; have GE112 := sg hg; have NB110_112 := nl hg BK110; have NB112_110 := ng hg BK110; replace BK110 := bb BK110 hb; replace HB := bs hb; clear hb hbox hg; have hnb10 := NB112_110.out; have hnc10 := NB110_112.out; obtain ⟨hcz11_0, hcz11_1, hcz11_2, hfz11_0, hfz11_1, hfz11_2⟩ := c3 BK112; obtain ⟨hcz12_0, hcz12_1, hcz12_2, hfz12_0, hfz12_1, hfz12_2⟩ := c3 BK110))
   refine bodyPost_ret (results_ct rfl _ _ gb110 27 #[.int .i64 a3, .int .i64 0, .int .i64 0] (0, 0) _ rfl (by (with_reducible repeat (first | apply bn | apply bd | apply ba)); refine blk_put (cs := #[.int .i64 a3, .int .i64 0, .int .i64 0]) ?_ 2 _ rfl; (with_reducible repeat (first | apply bn | apply bd | apply ba)); refine blk_put (cs := #[.int .i64 a3, .int .i64 0, .int .i64 0]) ?_ 1 _ rfl; (with_reducible repeat (first | apply bn | apply bd | apply ba)); refine blk_put (cs := #[.int .i64 0, .int .i64 0, .int .i64 0]) ?_ 0 _ rfl; (with_reducible repeat (first | apply bn | apply bd | apply ba)); refine blk_far ?_ NB110_112.out _; (with_reducible repeat (first | apply bn | apply bd | apply ba)); refine blk_far ?_ NB110_112.out _; (with_reducible repeat (first | apply bn | apply bd | apply ba)); refine blk_far ?_ NB110_112.out _; (with_reducible repeat (first | apply bn | apply bd | apply ba)); exact BK110.out) Try.underlying27 rfl (by kernel_rfl)) rfl ?_
   exact ⟨by first | rfl | (simp [errW_none, errW_some] <;> rfl) | (simp [*, errW_none, errW_some] <;> rfl), by repeat (first | (with_reducible first | exact HB.out | apply below_alloc | apply pw_below_drewN | apply below_drew1 | refine below_set ?_ GE110.out | refine below_set ?_ GE112.out) | exact HB.out)⟩
  ·rw [if_neg c7] at H
   have c7b0 : (a1 == 0) = false := beq_eq_false_iff_ne.mpr c7
   have c7b1 : (a1 != 0) = true := bne_iff_ne.mpr c7
   replace H := Option.bind_eq_some_iff.mp H
   obtain ⟨t113, A130, H⟩ := H
   replace H : ((spec_l01Val.f k a0 a2).bind fun t114 => (if a3 ≤ (wrap64 (t113 - t114)) then (some (a3, 0, 0, true)) else (if (mx (wrap64 (t114 - t113)) 0) > 6 then (some (0, 0, 0, false)) else ((spec_l01Power.f k a0 (wrap64 (a3 + (mx (wrap64 (t114 - t113)) 0)))).bind fun t115 => ((spec_l01Power.f k a0 t113).bind fun t116 => (if t116 = 0 then (none) else ((spec_l01Power.f k a0 t114).bind fun t117 => (if t117 = 0 then (none) else ((spec_l01InvMod.f k (wrap64 (Int.tdiv a2 t117)) t115).bind fun t118 => ((spec_l01MulMod.f (wrap64 (Int.tdiv a1 t116)) t118 t115).bind fun t119 => ((spec_l01Power.f k a0 (mx (wrap64 (t113 - t114)) 0)).bind fun t120 => ((spec_l01MulMod.f t119 t120 t115).bind fun t121 => (some (a3, t121, mx (wrap64 (t114 - t113)) 0, true)))))))))))))) = some (r1, r2, r3, r4) := H
   have A13 := Aside0.mk A130
   clear A130
   replace H := Option.bind_eq_some_iff.mp H
   obtain ⟨t114, A140, H⟩ := H
   replace H : (if a3 ≤ (wrap64 (t113 - t114)) then (some (a3, 0, 0, true)) else (if (mx (wrap64 (t114 - t113)) 0) > 6 then (some (0, 0, 0, false)) else ((spec_l01Power.f k a0 (wrap64 (a3 + (mx (wrap64 (t114 - t113)) 0)))).bind fun t115 => ((spec_l01Power.f k a0 t113).bind fun t116 => (if t116 = 0 then (none) else ((spec_l01Power.f k a0 t114).bind fun t117 => (if t117 = 0 then (none) else ((spec_l01InvMod.f k (wrap64 (Int.tdiv a2 t117)) t115).bind fun t118 => ((spec_l01MulMod.f (wrap64 (Int.tdiv a1 t116)) t118 t115).bind fun t119 => ((spec_l01Power.f k a0 (mx (wrap64 (t113 - t114)) 0)).bind fun t120 => ((spec_l01MulMod.f t119 t120 t115).bind fun t121 => (some (a3, t121, mx (wrap64 (t114 - t113)) 0, true))))))))))))) = some (r1, r2, r3, r4) := H
   have A14 := Aside0.mk A140
   clear A140
   by_cases c15 : a3 ≤ (wrap64 (t113 - t114))
   ·rw [if_pos c15] at H
    have c15b0 : decide (a3 ≤ (wrap64 (t113 - t114))) = true := decide_eq_true c15
    clear c15
    simp only [Option.some.injEq, Prod.mk.injEq] at H
    obtain ⟨rfl, rfl, rfl, rfl⟩ := H
    go_enter Try.func97, Try.ntmps97
    go_wp2_with (first | ((with_reducible refine gate_dst (N := 8) rfl ?_); refine bx (N := 8) (cs := #[.int .i64 0, .int .i64 0, .int .i64 0]) (t := 27) ?_; intro gb110 hg w16 hbox hb; have BK110 := Aside0.mk (hbox); have GW110 := sg hg; have GE110 := sg hg; replace HB := bs hb; clear hb hbox hg) | ((with_reducible refine gate_callee (f := 88) rfl ?_); refine g1 (some 15) Try.func88 #[.int .i64 a3, .int .i64 (-6), .int .i64 6] ?_; (with_reducible refine (spec_l01In.calls a3 (-6) 6 true _ A5.out).mono ?_); rintro e w' ⟨rfl, ⟨nd, rfl⟩⟩; refine ⟨_, rfl, ?_⟩; (try (rw [drewN_self w16]; generalize hq_ : World.drewN w16 _ = w16; have n0_ : Aside0 (w16.heap[gb110]? = some (.cells #[.int .i64 0, .int .i64 0, .int .i64 0] 27 (0, 0))) := ⟨by rw [← hq_]; exact (be BK110)⟩; have n1_ : Aside0 (Below w.heap.size w w16) := ⟨by rw [← hq_]; exact (by repeat (first | (with_reducible first | exact HB.out | apply below_alloc | apply pw_below_drewN | apply below_drew1 | refine below_set ?_ GE110.out) | exact HB.out))⟩; clear BK110 HB hq_; have BK110 := n0_; have HB := n1_; clear n0_ n1_))) | ((with_reducible refine gate_dst (N := 10) rfl ?_); refine bx (N := 10) (cs := #[.int .i64 0, .int .i64 0, .int .i64 0]) (t := 27) ?_; intro gb112 hg w17 hbox hb; have BK112 := Aside0.mk (hbox); have GW112 := sg hg; have GE112 := sg hg; have NB110_112 := nl hg BK110; have NB112_110 := ng hg BK110; replace BK110 := bb BK110 hb; replace HB := bs hb; clear hb hbox hg; have hnb18 := NB112_110.out; have hnc18 := NB110_112.out; obtain ⟨hcz19_0, hcz19_1, hcz19_2, hfz19_0, hfz19_1, hfz19_2⟩ := c3 BK112) | ((with_reducible refine gate_callee (f := 138) rfl ?_); refine g1 (some 25) Try.func138 #[.int .i64 a0, .int .i64 a1] ?_; (with_reducible refine (spec_l01Val.calls k a0 a1 t113 _ A13.out).mono ?_); rintro e w' ⟨rfl, ⟨nd, rfl⟩⟩; refine ⟨_, rfl, ?_⟩) | ((with_reducible refine gate_callee (f := 138) rfl ?_); refine g1 (some 28) Try.func138 #[.int .i64 a0, .int .i64 a2] ?_; (with_reducible refine (spec_l01Val.calls k a0 a2 t114 _ A14.out).mono ?_); rintro e w' ⟨rfl, ⟨nd, rfl⟩⟩; refine ⟨_, rfl, ?_⟩; have hqz1 : ∀ n, (World.drewN (World.setCell (World.setCell (World.setCell w17 ⟨gb112, 0, none⟩ (.int .i64 a3)) ⟨gb112, 1, none⟩ (.int .i64 0)) ⟨gb112, 2, none⟩ (.int .i64 0)) n).cell? ⟨gb112, 1, none⟩ = some (.int .i64 0) := (by intro n; go_simp); have hqz2 : ∀ n, (World.drewN (World.setCell (World.setCell (World.setCell w17 ⟨gb112, 0, none⟩ (.int .i64 a3)) ⟨gb112, 1, none⟩ (.int .i64 0)) ⟨gb112, 2, none⟩ (.int .i64 0)) n).cell? ⟨gb112, 2, none⟩ = some (.int .i64 0) := (by intro n; go_simp); obtain ⟨hcz20_0, hcz20_1, hcz20_2, hfz20_0, hfz20_1, hfz20_2⟩ := c3 BK110))
    refine bodyPost_ret (results_ct rfl _ _ gb110 27 #[.int .i64 a3, .int .i64 0, .int .i64 0] (0, 0) _ rfl (by (with_reducible repeat (first | apply bn | apply bd | apply ba)); refine blk_put (cs := #[.int .i64 a3, .int .i64 0, .int .i64 0]) ?_ 2 _ rfl; (with_reducible repeat (first | apply bn | apply bd | apply ba)); refine blk_put (cs := #[.int .i64 a3, .int .i64 0, .int .i64 0]) ?_ 1 _ rfl; (with_reducible repeat (first | apply bn | apply bd | apply ba)); refine blk_put (cs := #[.int .i64 0, .int .i64 0, .int .i64 0]) ?_ 0 _ rfl; (with_reducible repeat (first | apply bn | apply bd | apply ba)); refine blk_far ?_ NB110_112.out _; (with_reducible repeat (first | apply bn | apply bd | apply ba)); refine blk_far ?_ NB110_112.out _; (with_reducible repeat (first | apply bn | apply bd | apply ba)); refine blk_far ?_ NB110_112.out _; (with_reducible repeat (first | apply bn | apply bd | apply ba)); exact BK110.out) Try.underlying27 rfl (by kernel_rfl)) rfl ?_
    exact ⟨by first | rfl | (simp [errW_none, errW_some] <;> rfl) | (simp [*, errW_none, errW_some] <;> rfl), by repeat (first | (with_reducible first | exact HB.out | apply below_alloc | apply pw_below_drewN | apply below_drew1 | refine below_set ?_ GE110.out | refine below_set ?_ GE112.out) | exact HB.out)⟩
   ·rw [if_neg c15] at H
    have c15b0 : decide (a3 ≤ (wrap64 (t113 - t114))) = false := decide_eq_false c15
    clear c15
    obtain ⟨ji21, hji21⟩ : ∃ j_ : Int, (mx (wrap64 (t114 - t113)) 0) = j_ := ⟨_, rfl⟩
    replace H : (if (ji21) > 6 then (some (0, 0, 0, false)) else ((spec_l01Power.f k a0 (wrap64 (a3 + (ji21)))).bind fun t115 => ((spec_l01Power.f k a0 t113).bind fun t116 => (if t116 = 0 then (none) else ((spec_l01Power.f k a0 t114).bind fun t117 => (if t117 = 0 then (none) else ((spec_l01InvMod.f k (wrap64 (Int.tdiv a2 t117)) t115).bind fun t118 => ((spec_l01MulMod.f (wrap64 (Int.tdiv a1 t116)) t118 t115).bind fun t119 => ((spec_l01Power.f k a0 (mx (wrap64 (t113 - t114)) 0)).bind fun t120 => ((spec_l01MulMod.f t119 t120 t115).bind fun t121 => (some (a3, t121, ji21, true)))))))))))) = some (r1, r2, r3, r4) := by first | (rw [hji21] at H; exact H) | (simp only [hji21] at H ⊢; exact H)
    (try rw [hji21] at A5)
    (try rw [hji21] at A13)
    (try rw [hji21] at A14)
    (try (have hji21l : 0 ≤ ji21 := by (rw [← hji21]; unfold mx; (repeat' split) <;> omega)))
    (try (have hji21m : 0 ≤ ji21 := by omega))
    have hji21_ : (if (wrap64 (t114 - t113)) < 0 then 0 else (wrap64 (t114 - t113))) = ji21 := hji21
    by_cases c22 : (ji21) > 6
    ·rw [if_pos c22] at H
     have c22b0 : decide (6 < (ji21)) = true := decide_eq_true c22
     clear c22
     simp only [Option.some.injEq, Prod.mk.injEq] at H
     obtain ⟨rfl, rfl, rfl, rfl⟩ := H
     go_enter Try.func97, Try.ntmps97
     go_wp2_with (first | ((with_reducible refine gate_dst (N := 8) rfl ?_); refine bx (N := 8) (cs := #[.int .i64 0, .int .i64 0, .int .i64 0]) (t := 27) ?_; intro gb110 hg w23 hbox hb; have BK110 := Aside0.mk (hbox); have GW110 := sg hg; have GE110 := sg hg; replace HB := bs hb; clear hb hbox hg) | ((with_reducible refine gate_callee (f := 88) rfl ?_); refine g1 (some 15) Try.func88 #[.int .i64 a3, .int .i64 (-6), .int .i64 6] ?_; (with_reducible refine (spec_l01In.calls a3 (-6) 6 true _ A5.out).mono ?_); rintro e w' ⟨rfl, ⟨nd, rfl⟩⟩; refine ⟨_, rfl, ?_⟩; (try (rw [drewN_self w23]; generalize hq_ : World.drewN w23 _ = w23; have n0_ : Aside0 (w23.heap[gb110]? = some (.cells #[.int .i64 0, .int .i64 0, .int .i64 0] 27 (0, 0))) := ⟨by rw [← hq_]; exact (be BK110)⟩; have n1_ : Aside0 (Below w.heap.size w w23) := ⟨by rw [← hq_]; exact (by repeat (first | (with_reducible first | exact HB.out | apply below_alloc | apply pw_below_drewN | apply below_drew1 | refine below_set ?_ GE110.out) | exact HB.out))⟩; clear BK110 HB hq_; have BK110 := n0_; have HB := n1_; clear n0_ n1_))) | ((with_reducible refine gate_dst (N := 10) rfl ?_); refine bx (N := 10) (cs := #[.int .i64 0, .int .i64 0, .int .i64 0]) (t := 27) ?_; intro gb112 hg w24 hbox hb; have BK112 := Aside0.mk (hbox); have GW112 := sg hg; have GE112 := sg hg; have NB110_112 := nl hg BK110; have NB112_110 := ng hg BK110; replace BK110 := bb BK110 hb; replace HB := bs hb; clear hb hbox hg; have hnb25 := NB112_110.out; have hnc25 := NB110_112.out; obtain ⟨hcz26_0, hcz26_1, hcz26_2, hfz26_0, hfz26_1, hfz26_2⟩ := c3 BK112) | ((with_reducible refine gate_callee (f := 138) rfl ?_); refine g1 (some 25) Try.func138 #[.int .i64 a0, .int .i64 a1] ?_; (with_reducible refine (spec_l01Val.calls k a0 a1 t113 _ A13.out).mono ?_); rintro e w' ⟨rfl, ⟨nd, rfl⟩⟩; refine ⟨_, rfl, ?_⟩) | ((with_reducible refine gate_callee (f := 138) rfl ?_); refine g1 (some 28) Try.func138 #[.int .i64 a0, .int .i64 a2] ?_; (with_reducible refine (spec_l01Val.calls k a0 a2 t114 _ A14.out).mono ?_); rintro e w' ⟨rfl, ⟨nd, rfl⟩⟩; refine ⟨_, rfl, ?_⟩; have hqz1 : ∀ n, (World.drewN (World.setCell (World.setCell (World.setCell w24 ⟨gb112, 0, none⟩ (.int .i64 a3)) ⟨gb112, 1, none⟩ (.int .i64 0)) ⟨gb112, 2, none⟩ (.int .i64 0)) n).cell? ⟨gb112, 1, none⟩ = some (.int .i64 0) := (by intro n; go_simp); have hqz2 : ∀ n, (World.drewN (World.setCell (World.setCell (World.setCell w24 ⟨gb112, 0, none⟩ (.int .i64 a3)) ⟨gb112, 1, none⟩ (.int .i64 0)) ⟨gb112, 2, none⟩ (.int .i64 0)) n).cell? ⟨gb112, 2, none⟩ = some (.int .i64 0) := (by intro n; go_simp); obtain ⟨hcz27_0, hcz27_1, hcz27_2, hfz27_0, hfz27_1, hfz27_2⟩ := c3 BK110))
     refine bodyPost_ret (results_ct rfl _ _ gb110 27 #[.int .i64 0, .int .i64 0, .int .i64 0] (0, 0) _ rfl (by (with_reducible repeat (first | apply bn | apply bd | apply ba)); refine blk_put (cs := #[.int .i64 0, .int .i64 0, .int .i64 0]) ?_ 2 _ rfl; (with_reducible repeat (first | apply bn | apply bd | apply ba)); refine blk_put (cs := #[.int .i64 0, .int .i64 0, .int .i64 0]) ?_ 1 _ rfl; (with_reducible repeat (first | apply bn | apply bd | apply ba)); refine blk_put (cs := #[.int .i64 0, .int .i64 0, .int .i64 0]) ?_ 0 _ rfl; (with_reducible repeat (first | apply bn | apply bd | apply ba)); refine blk_far ?_ NB110_112.out _; (with_reducible repeat (first | apply bn | apply bd | apply ba)); refine blk_far ?_ NB110_112.out _; (with_reducible repeat (first | apply bn | apply bd | apply ba)); refine blk_far ?_ NB110_112.out _; (with_reducible repeat (first | apply bn | apply bd | apply ba)); refine blk_far ?_ NB110_112.out _; (with_reducible repeat (first | apply bn | apply bd | apply ba)); exact BK110.out) Try.underlying27 rfl (by kernel_rfl)) rfl ?_
     exact ⟨by first | rfl | (simp [errW_none, errW_some] <;> rfl) | (simp only [← hji21]; first | rfl | (simp [errW_none, errW_some] <;> rfl)) | (simp [*, errW_none, errW_some] <;> rfl), by repeat (first | (with_reducible first | exact HB.out | apply below_alloc | apply pw_below_drewN | apply below_drew1 | refine below_set ?_ GE110.out | refine below_set ?_ GE112.out) | exact HB.out)⟩
    ·rw [if_neg c22] at H
     have c22b0 : decide (6 < (ji21)) = false := decide_eq_false c22
     clear c22
     replace H := Option.bind_eq_some_iff.mp H
     obtain ⟨t115, A280, H⟩ := H
     replace H : ((spec_l01Power.f k a0 t113).bind fun t116 => (if t116 = 0 then (none) else ((spec_l01Power.f k a0 t114).bind fun t117 => (if t117 = 0 then (none) else ((spec_l01InvMod.f k (wrap64 (Int.tdiv a2 t117)) t115).bind fun t118 => ((spec_l01MulMod.f (wrap64 (Int.tdiv a1 t116)) t118 t115).bind fun t119 => ((spec_l01Power.f k a0 (mx (wrap64 (t113 - t114)) 0)).bind fun t120 => ((spec_l01MulMod.f t119 t120 t115).bind fun t121 => (some (a3, t121, ji21, true)))))))))) = some (r1, r2, r3, r4) := H
     have A28 := Aside0.mk A280
     clear A280
     replace H := Option.bind_eq_some_iff.mp H
     obtain ⟨t116, A290, H⟩ := H
     replace H : (if t116 = 0 then (none) else ((spec_l01Power.f k a0 t114).bind fun t117 => (if t117 = 0 then (none) else ((spec_l01InvMod.f k (wrap64 (Int.tdiv a2 t117)) t115).bind fun t118 => ((spec_l01MulMod.f (wrap64 (Int.tdiv a1 t116)) t118 t115).bind fun t119 => ((spec_l01Power.f k a0 (mx (wrap64 (t113 - t114)) 0)).bind fun t120 => ((spec_l01MulMod.f t119 t120 t115).bind fun t121 => (some (a3, t121, ji21, true))))))))) = some (r1, r2, r3, r4) := H
     have A29 := Aside0.mk A290
     clear A290
     by_cases c30 : t116 = 0
     ·rw [if_pos c30] at H
      exact absurd H (by simp)
     ·rw [if_neg c30] at H
      have c30b0 : (t116 == 0) = false := beq_eq_false_iff_ne.mpr c30
      have c30b1 : (t116 != 0) = true := bne_iff_ne.mpr c30
      replace H := Option.bind_eq_some_iff.mp H
      obtain ⟨t117, A310, H⟩ := H
      replace H : (if t117 = 0 then (none) else ((spec_l01InvMod.f k (wrap64 (Int.tdiv a2 t117)) t115).bind fun t118 => ((spec_l01MulMod.f (wrap64 (Int.tdiv a1 t116)) t118 t115).bind fun t119 => ((spec_l01Power.f k a0 (mx (wrap64 (t113 - t114)) 0)).bind fun t120 => ((spec_l01MulMod.f t119 t120 t115).bind fun t121 => (some (a3, t121, ji21, true))))))) = some (r1, r2, r3, r4) := H
      have A31 := Aside0.mk A310
      clear A310
      by_cases c32 : t117 = 0
      ·rw [if_pos c32] at H
       exact absurd H (by simp)
      ·rw [if_neg c32] at H
       have c32b0 : (t117 == 0) = false := beq_eq_false_iff_ne.mpr c32
       have c32b1 : (t117 != 0) = true := bne_iff_ne.mpr c32
       replace H := Option.bind_eq_some_iff.mp H
       obtain ⟨t118, A330, H⟩ := H
       replace H : ((spec_l01MulMod.f (wrap64 (Int.tdiv a1 t116)) t118 t115).bind fun t119 => ((spec_l01Power.f k a0 (mx (wrap64 (t113 - t114)) 0)).bind fun t120 => ((spec_l01MulMod.f t119 t120 t115).bind fun t121 => (some (a3, t121, ji21, true))))) = some (r1, r2, r3, r4) := H
       have A33 := Aside0.mk A330
       clear A330
       replace H := Option.bind_eq_some_iff.mp H
       obtain ⟨t119, A340, H⟩ := H
       replace H : ((spec_l01Power.f k a0 (mx (wrap64 (t113 - t114)) 0)).bind fun t120 => ((spec_l01MulMod.f t119 t120 t115).bind fun t121 => (some (a3, t121, ji21, true)))) = some (r1, r2, r3, r4) := H
       have A34 := Aside0.mk A340
       clear A340
       obtain ⟨ji35, hji35⟩ : ∃ j_ : Int, (mx (wrap64 (t113 - t114)) 0) = j_ := ⟨_, rfl⟩
       replace H : ((spec_l01Power.f k a0 (ji35)).bind fun t120 => ((spec_l01MulMod.f t119 t120 t115).bind fun t121 => (some (a3, t121, ji21, true)))) = some (r1, r2, r3, r4) := by first | (rw [hji35] at H; exact H) | (simp only [hji35] at H ⊢; exact H)
       (try rw [hji35] at A5)
       (try rw [hji35] at A13)
       (try rw [hji35] at A14)
       (try rw [hji35] at A28)
       (try rw [hji35] at A29)
       (try rw [hji35] at A31)
       (try rw [hji35] at A33)
       (try rw [hji35] at A34)
       (try (have hji35l : 0 ≤ ji35 := by (rw [← hji35]; unfold mx; (repeat' split) <;> omega)))
       (try (have hji35m : 0 ≤ ji35 := by omega))
       have hji35_ : (if (wrap64 (t113 - t114)) < 0 then 0 else (wrap64 (t113 - t114))) = ji35 := hji35
       replace H := Option.bind_eq_some_iff.mp H
       obtain ⟨t120, A360, H⟩ := H
       replace H : ((spec_l01MulMod.f t119 t120 t115).bind fun t121 => (some (a3, t121, ji21, true))) = some (r1, r2, r3, r4) := H
       have A36 := Aside0.mk A360
       clear A360
       replace H := Option.bind_eq_some_iff.mp H
       obtain ⟨t121, A370, H⟩ := H
       replace H : (some (a3, t121, ji21, true)) = some (r1, r2, r3, r4) := H
       have A37 := Aside0.mk A370
       clear A370
       simp only [Option.some.injEq, Prod.mk.injEq] at H
       obtain ⟨rfl, rfl, rfl, rfl⟩ := H
       go_enter Try.func97, Try.ntmps97
       go_wp2_with (first | ((with_reducible refine gate_dst (N := 8) rfl ?_); refine bx (N := 8) (cs := #[.int .i64 0, .int .i64 0, .int .i64 0]) (t := 27) ?_; intro gb110 hg w38 hbox hb; have BK110 := Aside0.mk (hbox); have GW110 := sg hg; have GE110 := sg hg; replace HB := bs hb; clear hb hbox hg) | ((with_reducible refine gate_callee (f := 88) rfl ?_); refine g1 (some 15) Try.func88 #[.int .i64 a3, .int .i64 (-6), .int .i64 6] ?_; (with_reducible refine (spec_l01In.calls a3 (-6) 6 true _ A5.out).mono ?_); rintro e w' ⟨rfl, ⟨nd, rfl⟩⟩; refine ⟨_, rfl, ?_⟩; (try (rw [drewN_self w38]; generalize hq_ : World.drewN w38 _ = w38; have n0_ : Aside0 (w38.heap[gb110]? = some (.cells #[.int .i64 0, .int .i64 0, .int .i64 0] 27 (0, 0))) := ⟨by rw [← hq_]; exact (be BK110)⟩; have n1_ : Aside0 (Below w.heap.size w w38) := ⟨by rw [← hq_]; exact (by repeat (first | (with_reducible first | exact HB.out | apply below_alloc | apply pw_below_drewN | apply below_drew1 | refine below_set ?_ GE110.out) | exact HB.out))⟩; clear BK110 HB hq_; have BK110 := n0_; have HB := n1_; clear n0_ n1_))) | ((with_reducible refine gate_dst (N := 10) rfl ?_); refine bx (N := 10) (cs := #[.int .i64 0, .int .i64 0, .int .i64 0]) (t := 27) ?_; intro gb112 hg w39 hbox hb; have BK112 := Aside0.mk (hbox); have GW112 := sg hg; have GE112 := sg hg; have NB110_112 := nl hg BK110; have NB112_110 := ng hg BK110; replace BK110 := bb BK110 hb; replace HB := bs hb; clear hb hbox hg; have hnb40 := NB112_110.out; have hnc40 := NB110_112.out; obtain ⟨hcz41_0, hcz41_1, hcz41_2, hfz41_0, hfz41_1, hfz41_2⟩ := c3 BK112) | ((with_reducible refine gate_callee (f := 138) rfl ?_); refine g1 (some 25) Try.func138 #[.int .i64 a0, .int .i64 a1] ?_; (with_reducible refine (spec_l01Val.calls k a0 a1 t113 _ A13.out).mono ?_); rintro e w' ⟨rfl, ⟨nd, rfl⟩⟩; refine ⟨_, rfl, ?_⟩) | ((with_reducible refine gate_callee (f := 138) rfl ?_); refine g1 (some 28) Try.func138 #[.int .i64 a0, .int .i64 a2] ?_; (with_reducible refine (spec_l01Val.calls k a0 a2 t114 _ A14.out).mono ?_); rintro e w' ⟨rfl, ⟨nd, rfl⟩⟩; refine ⟨_, rfl, ?_⟩; have hqz1 : ∀ n, (World.drewN (World.setCell (World.setCell (World.setCell w39 ⟨gb112, 0, none⟩ (.int .i64 a3)) ⟨gb112, 1, none⟩ (.int .i64 0)) ⟨gb112, 2, none⟩ (.int .i64 0)) n).cell? ⟨gb112, 1, none⟩ = some (.int .i64 0) := (by intro n; go_simp); have hqz2 : ∀ n, (World.drewN (World.setCell (World.setCell (World.setCell w39 ⟨gb112, 0, none⟩ (.int .i64 a3)) ⟨gb112, 1, none⟩ (.int .i64 0)) ⟨gb112, 2, none⟩ (.int .i64 0)) n).cell? ⟨gb112, 2, none⟩ = some (.int .i64 0) := (by intro n; go_simp)) | ((with_reducible refine gate_callee (f := 96) rfl ?_); refine goesL_ (some 49) rfl rfl Try.func96 (by kernel_rfl) rfl #[.int .i64 a0, .int .i64 (wrap64 (a3 + (ji21)))] rfl (by (try simp only [List.map_toArray, List.map_cons, List.map_nil]); first | done | (simp only [hji21]; rfl) | rfl | (simp only [List.length_drop, List.length_take]; rfl)) ?_; (with_reducible refine (spec_l01Power.calls k a0 (wrap64 (a3 + (ji21))) t115 _ A28.out).mono ?_); rintro e w' ⟨rfl, ⟨nd, rfl⟩⟩; refine ⟨_, rfl, ?_⟩) | ((with_reducible refine gate_callee (f := 96) rfl ?_); refine g1 (some 53) Try.func96 #[.int .i64 a0, .int .i64 t113] ?_; (with_reducible refine (spec_l01Power.calls k a0 t113 t116 _ A29.out).mono ?_); rintro e w' ⟨rfl, ⟨nd, rfl⟩⟩; refine ⟨_, rfl, ?_⟩) | ((with_reducible refine gate_callee (f := 96) rfl ?_); refine g1 (some 58) Try.func96 #[.int .i64 a0, .int .i64 t114] ?_; (with_reducible refine (spec_l01Power.calls k a0 t114 t117 _ A31.out).mono ?_); rintro e w' ⟨rfl, ⟨nd, rfl⟩⟩; refine ⟨_, rfl, ?_⟩) | ((with_reducible refine gate_callee (f := 144) rfl ?_); refine g1 (some 63) Try.func144 #[.int .i64 (wrap64 (Int.tdiv a2 t117)), .int .i64 t115] ?_; (with_reducible refine (spec_l01InvMod.calls k (wrap64 (Int.tdiv a2 t117)) t115 t118 _ A33.out).mono ?_); rintro e w' ⟨rfl, ⟨nd, rfl⟩⟩; refine ⟨_, rfl, ?_⟩) | ((with_reducible refine gate_callee (f := 143) rfl ?_); refine g1 (some 65) Try.func143 #[.int .i64 (wrap64 (Int.tdiv a1 t116)), .int .i64 t118, .int .i64 t115] ?_; (with_reducible refine (spec_l01MulMod.calls (wrap64 (Int.tdiv a1 t116)) t118 t115 t119 _ A34.out).mono ?_); rintro e w' ⟨rfl, ⟨nd, rfl⟩⟩; refine ⟨_, rfl, ?_⟩) | ((with_reducible refine gate_callee (f := 96) rfl ?_); refine goesL_ (some 71) rfl rfl Try.func96 (by kernel_rfl) rfl #[.int .i64 a0, .int .i64 ji35] rfl (by (try simp only [List.map_toArray, List.map_cons, List.map_nil]); first | done | (simp only [hji35]; rfl) | rfl | (simp only [List.length_drop, List.length_take]; rfl)) ?_; (with_reducible refine (spec_l01Power.calls k a0 ji35 t120 _ A36.out).mono ?_); rintro e w' ⟨rfl, ⟨nd, rfl⟩⟩; refine ⟨_, rfl, ?_⟩) | ((with_reducible refine gate_callee (f := 143) rfl ?_); refine g1 (some 73) Try.func143 #[.int .i64 t119, .int .i64 t120, .int .i64 t115] ?_; (with_reducible refine (spec_l01MulMod.calls t119 t120 t115 t121 _ A37.out).mono ?_); rintro e w' ⟨rfl, ⟨nd, rfl⟩⟩; refine ⟨_, rfl, ?_⟩; obtain ⟨hcz42_0, hcz42_1, hcz42_2, hfz42_0, hfz42_1, hfz42_2⟩ := c3 BK110))
       refine bodyPost_ret (results_ct rfl _ _ gb110 27 #[.int .i64 a3, .int .i64 t121, .int .i64 ji21] (0, 0) _ rfl (by (with_reducible repeat (first | apply bn | apply bd | apply ba)); refine blk_put (cs := #[.int .i64 a3, .int .i64 t121, .int .i64 0]) ?_ 2 _ rfl; (with_reducible repeat (first | apply bn | apply bd | apply ba)); refine blk_put (cs := #[.int .i64 a3, .int .i64 0, .int .i64 0]) ?_ 1 _ rfl; (with_reducible repeat (first | apply bn | apply bd | apply ba)); refine blk_put (cs := #[.int .i64 0, .int .i64 0, .int .i64 0]) ?_ 0 _ rfl; (with_reducible repeat (first | apply bn | apply bd | apply ba)); refine blk_far ?_ NB110_112.out _; (with_reducible repeat (first | apply bn | apply bd | apply ba)); refine blk_far ?_ NB110_112.out _; (with_reducible repeat (first | apply bn | apply bd | apply ba)); refine blk_far ?_ NB110_112.out _; (with_reducible repeat (first | apply bn | apply bd | apply ba)); refine blk_far ?_ NB110_112.out _; (with_reducible repeat (first | apply bn | apply bd | apply ba)); refine blk_far ?_ NB110_112.out _; (with_reducible repeat (first | apply bn | apply bd | apply ba)); exact BK110.out) Try.underlying27 rfl (by kernel_rfl)) rfl ?_
       exact ⟨by first | rfl | (simp [errW_none, errW_some] <;> rfl) | (simp only [← hji21, ← hji35]; first | rfl | (simp [errW_none, errW_some] <;> rfl)) | (simp [*, errW_none, errW_some] <;> rfl), by repeat (first | (with_reducible first | exact HB.out | apply below_alloc | apply pw_below_drewN | apply below_drew1 | refine below_set ?_ GE110.out | refine below_set ?_ GE112.out) | exact HB.out)⟩
 ·replace c6 := Bool.eq_false_iff.mpr c6
  subst c6
  have H1 : (some (0, 0, 0, false)) = some (r1, r2, r3, r4) := by rw [if_neg (show ¬ (false = true) by decide)] at H; exact H
  clear H
  have H := H1
  clear H1
  simp only [Option.some.injEq, Prod.mk.injEq] at H
  obtain ⟨rfl, rfl, rfl, rfl⟩ := H
  go_enter Try.func97, Try.ntmps97
  go_wp2_with (first | ((with_reducible refine gate_dst (N := 8) rfl ?_); refine bx (N := 8) (cs := #[.int .i64 0, .int .i64 0, .int .i64 0]) (t := 27) ?_; intro gb110 hg w43 hbox hb; have BK110 := Aside0.mk (hbox); have GW110 := sg hg; have GE110 := sg hg; replace HB := bs hb; clear hb hbox hg) | ((with_reducible refine gate_callee (f := 88) rfl ?_); refine g1 (some 15) Try.func88 #[.int .i64 a3, .int .i64 (-6), .int .i64 6] ?_; (with_reducible refine (spec_l01In.calls a3 (-6) 6 false _ A5.out).mono ?_); rintro e w' ⟨rfl, ⟨nd, rfl⟩⟩; refine ⟨_, rfl, ?_⟩; (try (rw [drewN_self w43]; generalize hq_ : World.drewN w43 _ = w43; have n0_ : Aside0 (w43.heap[gb110]? = some (.cells #[.int .i64 0, .int .i64 0, .int .i64 0] 27 (0, 0))) := ⟨by rw [← hq_]; exact (be BK110)⟩; have n1_ : Aside0 (Below w.heap.size w w43) := ⟨by rw [← hq_]; exact (by repeat (first | (with_reducible first | exact HB.out | apply below_alloc | apply pw_below_drewN | apply below_drew1 | refine below_set ?_ GE110.out) | exact HB.out))⟩; clear BK110 HB hq_; have BK110 := n0_; have HB := n1_; clear n0_ n1_)); obtain ⟨hcz44_0, hcz44_1, hcz44_2, hfz44_0, hfz44_1, hfz44_2⟩ := c3 BK110))
  refine bodyPost_ret (results_ct rfl _ _ gb110 27 #[.int .i64 0, .int .i64 0, .int .i64 0] (0, 0) _ rfl (by (with_reducible repeat (first | apply bn | apply bd | apply ba)); refine blk_put (cs := #[.int .i64 0, .int .i64 0, .int .i64 0]) ?_ 2 _ rfl; (with_reducible repeat (first | apply bn | apply bd | apply ba)); refine blk_put (cs := #[.int .i64 0, .int .i64 0, .int .i64 0]) ?_ 1 _ rfl; (with_reducible repeat (first | apply bn | apply bd | apply ba)); refine blk_put (cs := #[.int .i64 0, .int .i64 0, .int .i64 0]) ?_ 0 _ rfl; (with_reducible repeat (first | apply bn | apply bd | apply ba)); exact BK110.out) Try.underlying27 rfl (by kernel_rfl)) rfl ?_
  exact ⟨by first | rfl | (simp [errW_none, errW_some] <;> rfl) | (simp [*, errW_none, errW_some] <;> rfl), by repeat (first | (with_reducible first | exact HB.out | apply below_alloc | apply pw_below_drewN | apply below_drew1 | refine below_set ?_ GE110.out) | exact HB.out)⟩

/-! ### spec_l02Up: function 113 -/
def spec_l02Up.f (k : Nat) (a0 : Int) (a1_0 : Int) (a1_1 : Int) (a1_2 : Int) (a2 : Int) : Option (Int × Int × Int × Bool) := (spec_l01Power.f k a0 a1_2).bind fun t124 => ((spec_l01Of.f k a0 a1_1 t124 a2).bind fun bt125 => (some (bt125.1, bt125.2.1, bt125.2.2.1, bt125.2.2.2)))
theorem spec_l02Up.mono : ∀ a0 a1 a2 a3 a4 k, LeO (spec_l02Up.f k a0 a1 a2 a3 a4) (spec_l02Up.f (k + 1) a0 a1 a2 a3 a4) := by
 intro a0 a1 a2 a3 a4 k
 unfold spec_l02Up.f
 repeat' first
   | (with_reducible exact spec_l01Of.mono _ _ _ _ _)
   | (with_reducible exact spec_l01Power.mono _ _ _)
   | (with_reducible exact LeO.refl _)
   | (with_reducible exact LeO.none _)
   | (with_reducible refine LeO.ite ?_ ?_)
   | (with_reducible refine LeO.bind ?_ (fun _ => ?_))
   | refine LeO.ite ?_ ?_
   | refine LeO.bind ?_ (fun _ => ?_)
def spec_l02Up.T1 : Bool × List (List Nat × List Nat) := (true, [([], []), ([], []), ([1], [1]), ([], []), ([], []), ([4], [4]), ([3, 5], [3, 5]), ([], []), ([0, 2, 6, 7, 6], [0, 2, 6, 7]), ([8], [8]), ([8], [8]), ([9, 8, 0, 1, 2, 3, 4, 5, 6, 7, 8, 9, 10], [9]), ([10, 11, 0, 1, 2, 3, 4, 5, 6, 7, 8, 9, 10, 11], [10])])
def spec_l02Up.B1 : List Nat := [0, 0, 2, 0, 0, 16, 56, 0, 255, 511, 511, 2047, 4095]
theorem spec_l02Up.tab1 : rtab .any (opsOf Try.f113 1) = spec_l02Up.T1 := by kernel_rfl
theorem spec_l02Up.bits1 : waitsOk spec_l02Up.T1.2 spec_l02Up.B1 = true := by kernel_rfl
set_option maxHeartbeats 8000000 in
set_option maxRecDepth 100000 in
theorem spec_l02Up.calls (k : Nat) (a0 : Int) (a1_0 : Int) (a1_1 : Int) (a1_2 : Int) (a2 : Int) (r1 : Int) (r2 : Int) (r3 : Int) (r4 : Bool) (w : World) (h : spec_l02Up.f k a0 a1_0 a1_1 a1_2 a2 = some (r1, r2, r3, r4)) :
  Calls Try.prog 113 #[.int .i64 a0, .agg #[.int .i64 a1_0, .int .i64 a1_1, .int .i64 a1_2], .int .i64 a2] w fun e w' => e = .returned (.tuple #[.agg #[.int .i64 r1, .int .i64 r2, .int .i64 r3], .bool r4]) ∧ Below w.heap.size w w' := by
 have hu27 := Try.underlying27
 have HB := Aside0.mk (Below.refl w.heap.size w)
 have H : ((spec_l01Power.f k a0 a1_2).bind fun t124 => ((spec_l01Of.f k a0 a1_1 t124 a2).bind fun bt125 => (some (bt125.1, bt125.2.1, bt125.2.2.1, bt125.2.2.2)))) = some (r1, r2, r3, r4) := h
 clear h
 replace H := Option.bind_eq_some_iff.mp H
 obtain ⟨t124, A40, H⟩ := H
 replace H : ((spec_l01Of.f k a0 a1_1 t124 a2).bind fun bt125 => (some (bt125.1, bt125.2.1, bt125.2.2.1, bt125.2.2.2))) = some (r1, r2, r3, r4) := H
 have A4 := Aside0.mk A40
 clear A40
 replace H := Option.bind_eq_some_iff.mp H
 obtain ⟨⟨t125, t126, t127, t128⟩, A50, H⟩ := H
 replace H : (some (t125, t126, t127, t128)) = some (r1, r2, r3, r4) := H
 have A5 := Aside0.mk A50
 clear A50
 simp only [Option.some.injEq, Prod.mk.injEq] at H
 obtain ⟨rfl, rfl, rfl, rfl⟩ := H
 go_enter Try.func113, Try.ntmps113
 try go_wp2_with (first | ((with_reducible refine gate_dst (N := 4) rfl ?_); refine bx (N := 4) (cs := #[.int .i64 a1_0, .int .i64 a1_1, .int .i64 a1_2]) (t := 27) ?_; intro gb122 hg w6 hbox hb; have BK122 := Aside0.mk (hbox); have GW122 := sg hg; have GE122 := sg hg; replace HB := bs hb; clear hb hbox hg) | ((with_reducible refine gate_dst (N := 6) rfl ?_); refine bx (N := 6) (cs := #[.int .i64 0, .int .i64 0, .int .i64 0]) (t := 27) ?_; intro gb123 hg w7 hbox hb; have BK123 := Aside0.mk (hbox); have GW123 := sg hg; have GE123 := sg hg; have NB122_123 := nl hg BK122; have NB123_122 := ng hg BK122; replace BK122 := bb BK122 hb; replace HB := bs hb; clear hb hbox hg))
 have n0_ := Aside0.mk (blk_drew BK122.out)
 have n1_ := Aside0.mk (blk_drew BK123.out)
 have n2_ := Aside0.mk (below_drew1 HB.out)
 clear BK122
 clear BK123
 clear HB
 have BK122 := n0_
 have BK123 := n1_
 have HB := n2_
 clear n0_ n1_ n2_
 refine start_ (n := 13) (S := fun w' => w'.cell? ⟨gb122, 0, none⟩ = some (.int .i64 a1_0) ∧ w'.cell? ⟨gb122, 1, none⟩ = some (.int .i64 a1_1) ∧ w'.cell? ⟨gb122, 2, none⟩ = some (.int .i64 a1_2)) (ds := []) #[false, false, false, false, false, false, false, false, false, false, false, false, false] (by kernel_rfl) rfl rfl ⟨(blk_cell BK122.out 0).trans rfl, (blk_cell BK122.out 1).trans rfl, (blk_cell BK122.out 2).trans rfl⟩ (fun hHeld => ?_); refine with_tabW spec_l02Up.tab1 spec_l02Up.bits1 (fun HT_ HW_ => ?_)
 generalize w7.drew = w8 at BK122 BK123 HB hHeld ⊢
 refine pu 0 (some 8) #[true, false, false, false, false, false, false, false, false, false, false, false, false] HT_ ?_
 refine pu 1 (some 9) #[true, true, false, false, false, false, false, false, false, false, false, false, false] HT_ ?_
 refine pu 3 (some 11) #[true, true, false, true, false, false, false, false, false, false, false, false, false] HT_ ?_
 refine pu 4 (some 12) #[true, true, false, true, true, false, false, false, false, false, false, false, false] HT_ ?_
 refine pu 7 (some 15) #[true, true, false, true, true, false, false, true, false, false, false, false, false] HT_ ?_
 refine take_ (i := 2) (N := some 10) (v := ?_) (a' := ?_) #[true, true, true, true, true, false, false, true, false, false, false, false, false] rfl rfl (take_ofW HT_.out HW_.out (by kernel_rfl)) (fun _ _ _ h => h) (Or.inl ⟨by rfl, ?_⟩) hHeld ?_ ?_
 rotate_left
 ·rintro w' ⟨s0, s1, s2⟩
  go_simp
  with_reducible rfl
 rotate_left
 ·simp only [Act.put, List.setIfInBounds_toArray, List.set_cons_zero, List.set_cons_succ, i64_w, i32_w]
  rfl
 refine take_ (i := 5) (N := some 13) (v := ?_) (a' := ?_) #[true, true, true, true, true, true, false, true, false, false, false, false, false] rfl rfl (take_ofW HT_.out HW_.out (by kernel_rfl)) (fun _ _ _ h => h) (Or.inl ⟨by rfl, ?_⟩) hHeld ?_ ?_
 rotate_left
 ·rintro w' ⟨s0, s1, s2⟩
  go_simp
  with_reducible rfl
 rotate_left
 ·simp only [Act.put, List.setIfInBounds_toArray, List.set_cons_zero, List.set_cons_succ, i64_w, i32_w]
  rfl
 refine one_ (i := 6) (N := some 14) #[true, true, true, true, true, true, true, true, false, false, false, false, false] rfl rfl (one_of HT_.out (by kernel_rfl)) (by decide) (fun K hK => ?_)
 refine goes_ Try.func96 (by kernel_rfl) rfl #[.int .i64 a0, .int .i64 a1_2] (by rfl) rfl rfl (by (try simp only [List.map_toArray, List.map_cons, List.map_nil]); first | done | rfl | (simp only [List.length_drop, List.length_take]; rfl)) ?_
 with_reducible refine (spec_l01Power.calls k a0 a1_2 t124 _ A4.out).mono ?_
 rintro e w' ⟨rfl, ⟨nd, rfl⟩⟩
 refine ⟨_, rfl, ?_⟩
 refine hK.out _ _ ⟨(blk_cell BK122.out 0).trans rfl, (blk_cell BK122.out 1).trans rfl, (blk_cell BK122.out 2).trans rfl⟩ (fun hHeld => ?_)
 clear hK K
 refine norm_ (a' := ?_) ?_ ?_
 rotate_left
 ·show Act.put _ (some 14) _ = _
  simp only [Act.put, List.setIfInBounds_toArray, List.set_cons_zero, List.set_cons_succ, i64_w, i32_w]
  rfl
 refine one_ (i := 8) (N := some 16) #[true, true, true, true, true, true, true, true, true, false, false, false, false] rfl rfl (one_of HT_.out (by kernel_rfl)) (by decide) (fun K hK => ?_)
 refine goes_ Try.func97 (by kernel_rfl) rfl #[.int .i64 a0, .int .i64 a1_1, .int .i64 t124, .int .i64 a2] (by rfl) rfl rfl (by (try simp only [List.map_toArray, List.map_cons, List.map_nil]); first | done | rfl | (simp only [List.length_drop, List.length_take]; rfl)) ?_
 with_reducible refine (spec_l01Of.calls k a0 a1_1 t124 a2 t125 t126 t127 t128 _ A5.out).mono ?_
 rintro e w9 ⟨rfl, hb⟩
 refine ⟨_, rfl, ?_⟩
 have n0_ := bb BK122 hb
 have n1_ := bb BK123 hb
 have n2_ := Aside0.mk (below_step (by repeat (first | (with_reducible first | exact HB.out | apply below_alloc | apply pw_below_drewN | apply below_drew1 | refine below_set ?_ GE122.out | refine below_set ?_ GE123.out) | exact HB.out)) hb)
 clear BK122
 clear BK123
 clear HB
 have BK122 := n0_
 have BK123 := n1_
 have HB := n2_
 clear n0_ n1_ n2_
 (try clear hb)
 (try clear hb2)
 (try clear hk)
 (try clear hi)
 refine hK.out _ _ ⟨(blk_cell BK122.out 0).trans rfl, (blk_cell BK122.out 1).trans rfl, (blk_cell BK122.out 2).trans rfl⟩ (fun hHeld => ?_)
 clear hK K
 refine norm_ (a' := ?_) ?_ ?_
 rotate_left
 ·show Act.put _ (some 16) _ = _
  simp only [Act.put, List.setIfInBounds_toArray, List.set_cons_zero, List.set_cons_succ, i64_w, i32_w]
  rfl
 refine pu 9 (some 17) #[true, true, true, true, true, true, true, true, true, true, false, false, false] HT_ ?_
 refine pu 10 (some 18) #[true, true, true, true, true, true, true, true, true, true, true, false, false] HT_ ?_
 refine one_ (i := 11) (N := none) #[true, true, true, true, true, true, true, true, true, true, true, true, false] rfl rfl (one_of HT_.out (by kernel_rfl)) (by decide) (fun K hK => ?_)
 have hs10 : w9.cell? ⟨gb123, 0, none⟩ = some (.int .i64 0) := (blk_cell BK123.out 0).trans rfl
 have hfs10 := blk_frozen BK123.out 0
 have hns10_0 := NB122_123.out
 have hms10_0 := NB123_122.out
 have hs11 : w9.cell? ⟨gb123, 1, none⟩ = some (.int .i64 0) := (blk_cell BK123.out 1).trans rfl
 have hfs11 := blk_frozen BK123.out 1
 have hns11_0 := NB122_123.out
 have hms11_0 := NB123_122.out
 have hs12 : w9.cell? ⟨gb123, 2, none⟩ = some (.int .i64 0) := (blk_cell BK123.out 2).trans rfl
 have hfs12 := blk_frozen BK123.out 2
 have hns12_0 := NB122_123.out
 have hms12_0 := NB123_122.out
 refine skip_ (w1 := ?_) (by rfl) rfl ?_ ?_
 rotate_left
 ·go_simp
  rfl
 refine hK.out _ _ ⟨((cell_far (p := ⟨gb123, _, none⟩) NB122_123.out _).trans (((cell_far (p := ⟨gb123, _, none⟩) NB122_123.out _).trans (((cell_far (p := ⟨gb123, _, none⟩) NB122_123.out _).trans (hHeld.1)))))), ((cell_far (p := ⟨gb123, _, none⟩) NB122_123.out _).trans (((cell_far (p := ⟨gb123, _, none⟩) NB122_123.out _).trans (((cell_far (p := ⟨gb123, _, none⟩) NB122_123.out _).trans (hHeld.2.1)))))), ((cell_far (p := ⟨gb123, _, none⟩) NB122_123.out _).trans (((cell_far (p := ⟨gb123, _, none⟩) NB122_123.out _).trans (((cell_far (p := ⟨gb123, _, none⟩) NB122_123.out _).trans (hHeld.2.2))))))⟩ (fun hHeld => ?_)
 clear hK K
 refine pu 12 (some 7) #[true, true, true, true, true, true, true, true, true, true, true, true, true] HT_ ?_
 refine done_ (done_of HT_.out (by kernel_rfl)) ?_
 try go_wp2
 refine bodyPost_ret (results_ct rfl _ _ gb123 27 #[.int .i64 t125, .int .i64 t126, .int .i64 t127] (0, 0) _ rfl (by (with_reducible repeat (first | apply bn | apply bd | apply ba)); refine blk_put (cs := #[.int .i64 t125, .int .i64 t126, .int .i64 0]) ?_ 2 _ rfl; (with_reducible repeat (first | apply bn | apply bd | apply ba)); refine blk_put (cs := #[.int .i64 t125, .int .i64 0, .int .i64 0]) ?_ 1 _ rfl; (with_reducible repeat (first | apply bn | apply bd | apply ba)); refine blk_put (cs := #[.int .i64 0, .int .i64 0, .int .i64 0]) ?_ 0 _ rfl; (with_reducible repeat (first | apply bn | apply bd | apply ba)); exact BK123.out) Try.underlying27 rfl (by kernel_rfl)) rfl ?_
 exact ⟨by first | rfl | (simp [errW_none, errW_some] <;> rfl) | (simp [*, errW_none, errW_some] <;> rfl), by repeat (first | (with_reducible first | exact HB.out | apply below_alloc | apply pw_below_drewN | apply below_drew1 | refine below_set ?_ GE122.out | refine below_set ?_ GE123.out) | exact HB.out)⟩

/-! ### spec_l02Valuation: function 147 -/
def spec_l02Valuation.f (k : Nat) (a0 : Int) (a1_0 : Int) (a1_1 : Int) (a1_2 : Int) (a2_0 : Int) (a2_1 : Int) (a2_2 : Int) : Option (Int × Bool) := (spec_l01Power.f k a0 (wrap64 ((mx a1_2 a2_2) - a1_2))).bind fun t131 => ((spec_l01Power.f k a0 (wrap64 ((mx a1_2 a2_2) - a2_2))).bind fun t132 => (if (wrap64 ((wrap64 (a1_1 * t131)) - (wrap64 (a2_1 * t132)))) = 0 then (some (0, false)) else ((spec_l01Val.f k a0 (wrap64 ((wrap64 (a1_1 * t131)) - (wrap64 (a2_1 * t132))))).bind fun t133 => (some (wrap64 (t133 - (mx a1_2 a2_2)), true)))))
theorem spec_l02Valuation.mono : ∀ a0 a1 a2 a3 a4 a5 a6 k, LeO (spec_l02Valuation.f k a0 a1 a2 a3 a4 a5 a6) (spec_l02Valuation.f (k + 1) a0 a1 a2 a3 a4 a5 a6) := by
 intro a0 a1 a2 a3 a4 a5 a6 k
 unfold spec_l02Valuation.f
 repeat' first
   | (with_reducible exact spec_l01Power.mono _ _ _)
   | (with_reducible exact spec_l01Val.mono _ _ _)
   | (with_reducible exact LeO.refl _)
   | (with_reducible exact LeO.none _)
   | (with_reducible refine LeO.ite ?_ ?_)
   | (with_reducible refine LeO.bind ?_ (fun _ => ?_))
   | refine LeO.ite ?_ ?_
   | refine LeO.bind ?_ (fun _ => ?_)
set_option maxHeartbeats 8000000 in
set_option maxRecDepth 100000 in
theorem spec_l02Valuation.calls (k : Nat) (a0 : Int) (a1_0 : Int) (a1_1 : Int) (a1_2 : Int) (a2_0 : Int) (a2_1 : Int) (a2_2 : Int) (r1 : Int) (r2 : Bool) (w : World) (h : spec_l02Valuation.f k a0 a1_0 a1_1 a1_2 a2_0 a2_1 a2_2 = some (r1, r2)) :
  Calls Try.prog 147 #[.int .i64 a0, .agg #[.int .i64 a1_0, .int .i64 a1_1, .int .i64 a1_2], .agg #[.int .i64 a2_0, .int .i64 a2_1, .int .i64 a2_2]] w fun e w' => e = .returned (.tuple #[.int .i64 r1, .bool r2]) ∧ Below w.heap.size w w' := by
 have hu27 := Try.underlying27
 have HB := Aside0.mk (Below.refl w.heap.size w)
 have H : ((spec_l01Power.f k a0 (wrap64 ((mx a1_2 a2_2) - a1_2))).bind fun t131 => ((spec_l01Power.f k a0 (wrap64 ((mx a1_2 a2_2) - a2_2))).bind fun t132 => (if (wrap64 ((wrap64 (a1_1 * t131)) - (wrap64 (a2_1 * t132)))) = 0 then (some (0, false)) else ((spec_l01Val.f k a0 (wrap64 ((wrap64 (a1_1 * t131)) - (wrap64 (a2_1 * t132))))).bind fun t133 => (some (wrap64 (t133 - (mx a1_2 a2_2)), true)))))) = some (r1, r2) := h
 clear h
 obtain ⟨ji4, hji4⟩ : ∃ j_ : Int, (mx a1_2 a2_2) = j_ := ⟨_, rfl⟩
 replace H : ((spec_l01Power.f k a0 (wrap64 ((ji4) - a1_2))).bind fun t131 => ((spec_l01Power.f k a0 (wrap64 ((ji4) - a2_2))).bind fun t132 => (if (wrap64 ((wrap64 (a1_1 * t131)) - (wrap64 (a2_1 * t132)))) = 0 then (some (0, false)) else ((spec_l01Val.f k a0 (wrap64 ((wrap64 (a1_1 * t131)) - (wrap64 (a2_1 * t132))))).bind fun t133 => (some (wrap64 (t133 - (ji4)), true)))))) = some (r1, r2) := by first | (rw [hji4] at H; exact H) | (simp only [hji4] at H ⊢; exact H)
 have hji4_ : (if a1_2 < a2_2 then a2_2 else a1_2) = ji4 := hji4
 replace H := Option.bind_eq_some_iff.mp H
 obtain ⟨t131, A50, H⟩ := H
 replace H : ((spec_l01Power.f k a0 (wrap64 ((ji4) - a2_2))).bind fun t132 => (if (wrap64 ((wrap64 (a1_1 * t131)) - (wrap64 (a2_1 * t132)))) = 0 then (some (0, false)) else ((spec_l01Val.f k a0 (wrap64 ((wrap64 (a1_1 * t131)) - (wrap64 (a2_1 * t132))))).bind fun t133 => (some (wrap64 (t133 - (ji4)), true))))) = some (r1, r2) := H
 have A5 := Aside0.mk A50
 clear A50
 replace H := Option.bind_eq_some_iff.mp H
 obtain ⟨t132, A60, H⟩ := H
 replace H : (if (wrap64 ((wrap64 (a1_1 * t131)) - (wrap64 (a2_1 * t132)))) = 0 then (some (0, false)) else ((spec_l01Val.f k a0 (wrap64 ((wrap64 (a1_1 * t131)) - (wrap64 (a2_1 * t132))))).bind fun t133 => (some (wrap64 (t133 - (ji4)), true)))) = some (r1, r2) := H
 have A6 := Aside0.mk A60
 clear A60
 by_cases c7 : (wrap64 ((wrap64 (a1_1 * t131)) - (wrap64 (a2_1 * t132)))) = 0
 ·rw [if_pos c7] at H
  have c7b0 : ((wrap64 ((wrap64 (a1_1 * t131)) - (wrap64 (a2_1 * t132)))) == 0) = true := beq_iff_eq.mpr c7
  have c7b1 : ((wrap64 ((wrap64 (a1_1 * t131)) - (wrap64 (a2_1 * t132)))) != 0) = false := bne_eq_false_iff_eq.mpr c7
  clear c7
  simp only [Option.some.injEq, Prod.mk.injEq] at H
  obtain ⟨rfl, rfl⟩ := H
  go_enter Try.func147, Try.ntmps147
  go_wp2_with (first | ((with_reducible refine gate_dst (N := 4) rfl ?_); refine bx (N := 4) (cs := #[.int .i64 a1_0, .int .i64 a1_1, .int .i64 a1_2]) (t := 27) ?_; intro gb129 hg w8 hbox hb; have BK129 := Aside0.mk (hbox); have GW129 := sg hg; have GE129 := sg hg; replace HB := bs hb; clear hb hbox hg) | ((with_reducible refine gate_dst (N := 5) rfl ?_); refine bx (N := 5) (cs := #[.int .i64 a2_0, .int .i64 a2_1, .int .i64 a2_2]) (t := 27) ?_; intro gb130 hg w9 hbox hb; have BK130 := Aside0.mk (hbox); have GW130 := sg hg; have GE130 := sg hg; have NB129_130 := nl hg BK129; have NB130_129 := ng hg BK129; replace BK129 := bb BK129 hb; replace HB := bs hb; clear hb hbox hg; have hnb10 := NB129_130.out; have hnc10 := NB130_129.out; obtain ⟨hcz11_0, hcz11_1, hcz11_2, hfz11_0, hfz11_1, hfz11_2⟩ := c3 BK129; obtain ⟨hcz12_0, hcz12_1, hcz12_2, hfz12_0, hfz12_1, hfz12_2⟩ := c3 BK130) | (go_at_call 96; (with_reducible refine (spec_l01Power.calls k a0 (wrap64 ((ji4) - a1_2)) t131 _ A5.out).mono ?_); rintro e w' ⟨rfl, ⟨nd, rfl⟩⟩; (try first | exact ⟨rfl, _, World.drewN_drewN _ _ _⟩ | exact ⟨rfl, _, Eq.trans (World.drewN_drewN _ _ _) (congrArg (World.drewN _) (Nat.add_assoc _ _ _))⟩)) | (go_at_call 96; (with_reducible refine (spec_l01Power.calls k a0 (wrap64 ((ji4) - a2_2)) t132 _ A6.out).mono ?_); rintro e w' ⟨rfl, ⟨nd, rfl⟩⟩; (try first | exact ⟨rfl, _, World.drewN_drewN _ _ _⟩ | exact ⟨rfl, _, Eq.trans (World.drewN_drewN _ _ _) (congrArg (World.drewN _) (Nat.add_assoc _ _ _))⟩)))
  repeat (go_quiet (first | ((with_reducible refine gate_dst (N := 4) rfl ?_); refine bx (N := 4) (cs := #[.int .i64 a1_0, .int .i64 a1_1, .int .i64 a1_2]) (t := 27) ?_; intro gb129 hg w8 hbox hb; have BK129 := Aside0.mk (hbox); have GW129 := sg hg; have GE129 := sg hg; replace HB := bs hb; clear hb hbox hg) | ((with_reducible refine gate_dst (N := 5) rfl ?_); refine bx (N := 5) (cs := #[.int .i64 a2_0, .int .i64 a2_1, .int .i64 a2_2]) (t := 27) ?_; intro gb130 hg w9 hbox hb; have BK130 := Aside0.mk (hbox); have GW130 := sg hg; have GE130 := sg hg; have NB129_130 := nl hg BK129; have NB130_129 := ng hg BK129; replace BK129 := bb BK129 hb; replace HB := bs hb; clear hb hbox hg; have hnb10 := NB129_130.out; have hnc10 := NB130_129.out; obtain ⟨hcz11_0, hcz11_1, hcz11_2, hfz11_0, hfz11_1, hfz11_2⟩ := c3 BK129; obtain ⟨hcz12_0, hcz12_1, hcz12_2, hfz12_0, hfz12_1, hfz12_2⟩ := c3 BK130) | (go_at_call 96; (with_reducible refine (spec_l01Power.calls k a0 (wrap64 ((ji4) - a1_2)) t131 _ A5.out).mono ?_); rintro e w' ⟨rfl, ⟨nd, rfl⟩⟩; (try first | exact ⟨rfl, _, World.drewN_drewN _ _ _⟩ | exact ⟨rfl, _, Eq.trans (World.drewN_drewN _ _ _) (congrArg (World.drewN _) (Nat.add_assoc _ _ _))⟩)) | (go_at_call 96; (with_reducible refine (spec_l01Power.calls k a0 (wrap64 ((ji4) - a2_2)) t132 _ A6.out).mono ?_); rintro e w' ⟨rfl, ⟨nd, rfl⟩⟩; (try first | exact ⟨rfl, _, World.drewN_drewN _ _ _⟩ | exact ⟨rfl, _, Eq.trans (World.drewN_drewN _ _ _) (congrArg (World.drewN _) (Nat.add_assoc _ _ _))⟩))); try go_wp2_with (first | ((with_reducible refine gate_dst (N := 4) rfl ?_); refine bx (N := 4) (cs := #[.int .i64 a1_0, .int .i64 a1_1, .int .i64 a1_2]) (t := 27) ?_; intro gb129 hg w8 hbox hb; have BK129 := Aside0.mk (hbox); have GW129 := sg hg; have GE129 := sg hg; replace HB := bs hb; clear hb hbox hg) | ((with_reducible refine gate_dst (N := 5) rfl ?_); refine bx (N := 5) (cs := #[.int .i64 a2_0, .int .i64 a2_1, .int .i64 a2_2]) (t := 27) ?_; intro gb130 hg w9 hbox hb; have BK130 := Aside0.mk (hbox); have GW130 := sg hg; have GE130 := sg hg; have NB129_130 := nl hg BK129; have NB130_129 := ng hg BK129; replace BK129 := bb BK129 hb; replace HB := bs hb; clear hb hbox hg; have hnb10 := NB129_130.out; have hnc10 := NB130_129.out; obtain ⟨hcz11_0, hcz11_1, hcz11_2, hfz11_0, hfz11_1, hfz11_2⟩ := c3 BK129; obtain ⟨hcz12_0, hcz12_1, hcz12_2, hfz12_0, hfz12_1, hfz12_2⟩ := c3 BK130) | (go_at_call 96; (with_reducible refine (spec_l01Power.calls k a0 (wrap64 ((ji4) - a1_2)) t131 _ A5.out).mono ?_); rintro e w' ⟨rfl, ⟨nd, rfl⟩⟩; (try first | exact ⟨rfl, _, World.drewN_drewN _ _ _⟩ | exact ⟨rfl, _, Eq.trans (World.drewN_drewN _ _ _) (congrArg (World.drewN _) (Nat.add_assoc _ _ _))⟩)) | (go_at_call 96; (with_reducible refine (spec_l01Power.calls k a0 (wrap64 ((ji4) - a2_2)) t132 _ A6.out).mono ?_); rintro e w' ⟨rfl, ⟨nd, rfl⟩⟩; (try first | exact ⟨rfl, _, World.drewN_drewN _ _ _⟩ | exact ⟨rfl, _, Eq.trans (World.drewN_drewN _ _ _) (congrArg (World.drewN _) (Nat.add_assoc _ _ _))⟩))))
  go_ret2
  exact ⟨by first | rfl | (simp [errW_none, errW_some] <;> rfl) | (simp only [← hji4]; first | rfl | (simp [errW_none, errW_some] <;> rfl)) | (simp [*, errW_none, errW_some] <;> rfl), by repeat (first | (with_reducible first | exact HB.out | apply below_alloc | apply pw_below_drewN | apply below_drew1 | refine below_set ?_ GE129.out | refine below_set ?_ GE130.out) | exact HB.out)⟩
 ·rw [if_neg c7] at H
  have c7b0 : ((wrap64 ((wrap64 (a1_1 * t131)) - (wrap64 (a2_1 * t132)))) == 0) = false := beq_eq_false_iff_ne.mpr c7
  have c7b1 : ((wrap64 ((wrap64 (a1_1 * t131)) - (wrap64 (a2_1 * t132)))) != 0) = true := bne_iff_ne.mpr c7
  replace H := Option.bind_eq_some_iff.mp H
  obtain ⟨t133, A130, H⟩ := H
  replace H : (some (wrap64 (t133 - (ji4)), true)) = some (r1, r2) := H
  have A13 := Aside0.mk A130
  clear A130
  simp only [Option.some.injEq, Prod.mk.injEq] at H
  obtain ⟨rfl, rfl⟩ := H
  go_enter Try.func147, Try.ntmps147
  go_wp2_with (first | ((with_reducible refine gate_dst (N := 4) rfl ?_); refine bx (N := 4) (cs := #[.int .i64 a1_0, .int .i64 a1_1, .int .i64 a1_2]) (t := 27) ?_; intro gb129 hg w14 hbox hb; have BK129 := Aside0.mk (hbox); have GW129 := sg hg; have GE129 := sg hg; replace HB := bs hb; clear hb hbox hg) | ((with_reducible refine gate_dst (N := 5) rfl ?_); refine bx (N := 5) (cs := #[.int .i64 a2_0, .int .i64 a2_1, .int .i64 a2_2]) (t := 27) ?_; intro gb130 hg w15 hbox hb; have BK130 := Aside0.mk (hbox); have GW130 := sg hg; have GE130 := sg hg; have NB129_130 := nl hg BK129; have NB130_129 := ng hg BK129; replace BK129 := bb BK129 hb; replace HB := bs hb; clear hb hbox hg; have hnb16 := NB129_130.out; have hnc16 := NB130_129.out; obtain ⟨hcz17_0, hcz17_1, hcz17_2, hfz17_0, hfz17_1, hfz17_2⟩ := c3 BK129; obtain ⟨hcz18_0, hcz18_1, hcz18_2, hfz18_0, hfz18_1, hfz18_2⟩ := c3 BK130) | (go_at_call 96; (with_reducible refine (spec_l01Power.calls k a0 (wrap64 ((ji4) - a1_2)) t131 _ A5.out).mono ?_); rintro e w' ⟨rfl, ⟨nd, rfl⟩⟩; (try first | exact ⟨rfl, _, World.drewN_drewN _ _ _⟩ | exact ⟨rfl, _, Eq.trans (World.drewN_drewN _ _ _) (congrArg (World.drewN _) (Nat.add_assoc _ _ _))⟩)) | (go_at_call 96; (with_reducible refine (spec_l01Power.calls k a0 (wrap64 ((ji4) - a2_2)) t132 _ A6.out).mono ?_); rintro e w' ⟨rfl, ⟨nd, rfl⟩⟩; (try first | exact ⟨rfl, _, World.drewN_drewN _ _ _⟩ | exact ⟨rfl, _, Eq.trans (World.drewN_drewN _ _ _) (congrArg (World.drewN _) (Nat.add_assoc _ _ _))⟩)) | (go_at_call 138; (with_reducible refine (spec_l01Val.calls k a0 (wrap64 ((wrap64 (a1_1 * t131)) - (wrap64 (a2_1 * t132)))) t133 _ A13.out).mono ?_); rintro e w' ⟨rfl, ⟨nd, rfl⟩⟩; (try first | exact ⟨rfl, _, World.drewN_drewN _ _ _⟩ | exact ⟨rfl, _, Eq.trans (World.drewN_drewN _ _ _) (congrArg (World.drewN _) (Nat.add_assoc _ _ _))⟩)))
  repeat (go_quiet (first | ((with_reducible refine gate_dst (N := 4) rfl ?_); refine bx (N := 4) (cs := #[.int .i64 a1_0, .int .i64 a1_1, .int .i64 a1_2]) (t := 27) ?_; intro gb129 hg w14 hbox hb; have BK129 := Aside0.mk (hbox); have GW129 := sg hg; have GE129 := sg hg; replace HB := bs hb; clear hb hbox hg) | ((with_reducible refine gate_dst (N := 5) rfl ?_); refine bx (N := 5) (cs := #[.int .i64 a2_0, .int .i64 a2_1, .int .i64 a2_2]) (t := 27) ?_; intro gb130 hg w15 hbox hb; have BK130 := Aside0.mk (hbox); have GW130 := sg hg; have GE130 := sg hg; have NB129_130 := nl hg BK129; have NB130_129 := ng hg BK129; replace BK129 := bb BK129 hb; replace HB := bs hb; clear hb hbox hg; have hnb16 := NB129_130.out; have hnc16 := NB130_129.out; obtain ⟨hcz17_0, hcz17_1, hcz17_2, hfz17_0, hfz17_1, hfz17_2⟩ := c3 BK129; obtain ⟨hcz18_0, hcz18_1, hcz18_2, hfz18_0, hfz18_1, hfz18_2⟩ := c3 BK130) | (go_at_call 96; (with_reducible refine (spec_l01Power.calls k a0 (wrap64 ((ji4) - a1_2)) t131 _ A5.out).mono ?_); rintro e w' ⟨rfl, ⟨nd, rfl⟩⟩; (try first | exact ⟨rfl, _, World.drewN_drewN _ _ _⟩ | exact ⟨rfl, _, Eq.trans (World.drewN_drewN _ _ _) (congrArg (World.drewN _) (Nat.add_assoc _ _ _))⟩)) | (go_at_call 96; (with_reducible refine (spec_l01Power.calls k a0 (wrap64 ((ji4) - a2_2)) t132 _ A6.out).mono ?_); rintro e w' ⟨rfl, ⟨nd, rfl⟩⟩; (try first | exact ⟨rfl, _, World.drewN_drewN _ _ _⟩ | exact ⟨rfl, _, Eq.trans (World.drewN_drewN _ _ _) (congrArg (World.drewN _) (Nat.add_assoc _ _ _))⟩)) | (go_at_call 138; (with_reducible refine (spec_l01Val.calls k a0 (wrap64 ((wrap64 (a1_1 * t131)) - (wrap64 (a2_1 * t132)))) t133 _ A13.out).mono ?_); rintro e w' ⟨rfl, ⟨nd, rfl⟩⟩; (try first | exact ⟨rfl, _, World.drewN_drewN _ _ _⟩ | exact ⟨rfl, _, Eq.trans (World.drewN_drewN _ _ _) (congrArg (World.drewN _) (Nat.add_assoc _ _ _))⟩))); try go_wp2_with (first | ((with_reducible refine gate_dst (N := 4) rfl ?_); refine bx (N := 4) (cs := #[.int .i64 a1_0, .int .i64 a1_1, .int .i64 a1_2]) (t := 27) ?_; intro gb129 hg w14 hbox hb; have BK129 := Aside0.mk (hbox); have GW129 := sg hg; have GE129 := sg hg; replace HB := bs hb; clear hb hbox hg) | ((with_reducible refine gate_dst (N := 5) rfl ?_); refine bx (N := 5) (cs := #[.int .i64 a2_0, .int .i64 a2_1, .int .i64 a2_2]) (t := 27) ?_; intro gb130 hg w15 hbox hb; have BK130 := Aside0.mk (hbox); have GW130 := sg hg; have GE130 := sg hg; have NB129_130 := nl hg BK129; have NB130_129 := ng hg BK129; replace BK129 := bb BK129 hb; replace HB := bs hb; clear hb hbox hg; have hnb16 := NB129_130.out; have hnc16 := NB130_129.out; obtain ⟨hcz17_0, hcz17_1, hcz17_2, hfz17_0, hfz17_1, hfz17_2⟩ := c3 BK129; obtain ⟨hcz18_0, hcz18_1, hcz18_2, hfz18_0, hfz18_1, hfz18_2⟩ := c3 BK130) | (go_at_call 96; (with_reducible refine (spec_l01Power.calls k a0 (wrap64 ((ji4) - a1_2)) t131 _ A5.out).mono ?_); rintro e w' ⟨rfl, ⟨nd, rfl⟩⟩; (try first | exact ⟨rfl, _, World.drewN_drewN _ _ _⟩ | exact ⟨rfl, _, Eq.trans (World.drewN_drewN _ _ _) (congrArg (World.drewN _) (Nat.add_assoc _ _ _))⟩)) | (go_at_call 96; (with_reducible refine (spec_l01Power.calls k a0 (wrap64 ((ji4) - a2_2)) t132 _ A6.out).mono ?_); rintro e w' ⟨rfl, ⟨nd, rfl⟩⟩; (try first | exact ⟨rfl, _, World.drewN_drewN _ _ _⟩ | exact ⟨rfl, _, Eq.trans (World.drewN_drewN _ _ _) (congrArg (World.drewN _) (Nat.add_assoc _ _ _))⟩)) | (go_at_call 138; (with_reducible refine (spec_l01Val.calls k a0 (wrap64 ((wrap64 (a1_1 * t131)) - (wrap64 (a2_1 * t132)))) t133 _ A13.out).mono ?_); rintro e w' ⟨rfl, ⟨nd, rfl⟩⟩; (try first | exact ⟨rfl, _, World.drewN_drewN _ _ _⟩ | exact ⟨rfl, _, Eq.trans (World.drewN_drewN _ _ _) (congrArg (World.drewN _) (Nat.add_assoc _ _ _))⟩))))
  go_ret2
  exact ⟨by first | rfl | (simp [errW_none, errW_some] <;> rfl) | (simp only [← hji4]; first | rfl | (simp [errW_none, errW_some] <;> rfl)) | (simp [*, errW_none, errW_some] <;> rfl), by repeat (first | (with_reducible first | exact HB.out | apply below_alloc | apply pw_below_drewN | apply below_drew1 | refine below_set ?_ GE129.out | refine below_set ?_ GE130.out) | exact HB.out)⟩

/-! ### spec_l02Join: function 114 -/
def spec_l02Join.f (k : Nat) (a0 : Int) (a1_0 : Int) (a1_1 : Int) (a1_2 : Int) (a2_0 : Int) (a2_1 : Int) (a2_2 : Int) : Option (Int) := (spec_l02Valuation.f k a0 a1_0 a1_1 a1_2 a2_0 a2_1 a2_2).bind fun bt136 => (if bt136.2 = true then (some (mn (mn a1_0 a2_0) bt136.1)) else (some (mn a1_0 a2_0)))
theorem spec_l02Join.mono : ∀ a0 a1 a2 a3 a4 a5 a6 k, LeO (spec_l02Join.f k a0 a1 a2 a3 a4 a5 a6) (spec_l02Join.f (k + 1) a0 a1 a2 a3 a4 a5 a6) := by
 intro a0 a1 a2 a3 a4 a5 a6 k
 unfold spec_l02Join.f
 repeat' first
   | (with_reducible exact spec_l02Valuation.mono _ _ _ _ _ _ _ _)
   | (with_reducible exact LeO.refl _)
   | (with_reducible exact LeO.none _)
   | (with_reducible refine LeO.ite ?_ ?_)
   | (with_reducible refine LeO.bind ?_ (fun _ => ?_))
   | refine LeO.ite ?_ ?_
   | refine LeO.bind ?_ (fun _ => ?_)
set_option maxHeartbeats 8000000 in
set_option maxRecDepth 100000 in
theorem spec_l02Join.calls (k : Nat) (a0 : Int) (a1_0 : Int) (a1_1 : Int) (a1_2 : Int) (a2_0 : Int) (a2_1 : Int) (a2_2 : Int) (r : Int) (w : World) (h : spec_l02Join.f k a0 a1_0 a1_1 a1_2 a2_0 a2_1 a2_2 = some r) :
  Calls Try.prog 114 #[.int .i64 a0, .agg #[.int .i64 a1_0, .int .i64 a1_1, .int .i64 a1_2], .agg #[.int .i64 a2_0, .int .i64 a2_1, .int .i64 a2_2]] w fun e w' => e = .returned (.int .i64 r) ∧ Below w.heap.size w w' := by
 have hu27 := Try.underlying27
 have HB := Aside0.mk (Below.refl w.heap.size w)
 have H : ((spec_l02Valuation.f k a0 a1_0 a1_1 a1_2 a2_0 a2_1 a2_2).bind fun bt136 => (if bt136.2 = true then (some (mn (mn a1_0 a2_0) bt136.1)) else (some (mn a1_0 a2_0)))) = some r := h
 clear h
 obtain ⟨ji4, hji4⟩ : ∃ j_ : Int, (mn a1_0 a2_0) = j_ := ⟨_, rfl⟩
 replace H : ((spec_l02Valuation.f k a0 a1_0 a1_1 a1_2 a2_0 a2_1 a2_2).bind fun bt136 => (if bt136.2 = true then (some (mn (ji4) bt136.1)) else (some ji4))) = some r := by first | (rw [hji4] at H; exact H) | (simp only [hji4] at H ⊢; exact H)
 have hji4_ : (if a2_0 < a1_0 then a2_0 else a1_0) = ji4 := hji4
 replace H := Option.bind_eq_some_iff.mp H
 obtain ⟨⟨t136, t137⟩, A50, H⟩ := H
 replace H : (if t137 = true then (some (mn (ji4) t136)) else (some ji4)) = some r := H
 have A5 := Aside0.mk A50
 clear A50
 by_cases c6 : t137 = true
 ·subst c6
  have H1 : (some (mn (ji4) t136)) = some r := by rw [if_pos rfl] at H; exact H
  clear H
  have H := H1
  clear H1
  obtain ⟨ji7, hji7⟩ : ∃ j_ : Int, (mn (ji4) t136) = j_ := ⟨_, rfl⟩
  replace H : (some ji7) = some r := by first | (rw [hji7] at H; exact H) | (simp only [hji7] at H ⊢; exact H)
  (try rw [hji7] at A5)
  have hji7_ : (if t136 < (ji4) then t136 else (ji4)) = ji7 := hji7
  obtain rfl := Option.some.inj H
  go_enter Try.func114, Try.ntmps114
  go_wp2_with (first | ((with_reducible refine gate_dst (N := 4) rfl ?_); refine bx (N := 4) (cs := #[.int .i64 a1_0, .int .i64 a1_1, .int .i64 a1_2]) (t := 27) ?_; intro gb134 hg w8 hbox hb; have BK134 := Aside0.mk (hbox); have GW134 := sg hg; have GE134 := sg hg; replace HB := bs hb; clear hb hbox hg) | ((with_reducible refine gate_dst (N := 5) rfl ?_); refine bx (N := 5) (cs := #[.int .i64 a2_0, .int .i64 a2_1, .int .i64 a2_2]) (t := 27) ?_; intro gb135 hg w9 hbox hb; have BK135 := Aside0.mk (hbox); have GW135 := sg hg; have GE135 := sg hg; have NB134_135 := nl hg BK134; have NB135_134 := ng hg BK134; replace BK134 := bb BK134 hb; replace HB := bs hb; clear hb hbox hg; have hnb10 := NB134_135.out; have hnc10 := NB135_134.out; obtain ⟨hcz11_0, hcz11_1, hcz11_2, hfz11_0, hfz11_1, hfz11_2⟩ := c3 BK134; obtain ⟨hcz12_0, hcz12_1, hcz12_2, hfz12_0, hfz12_1, hfz12_2⟩ := c3 BK135) | ((with_reducible refine gate_callee (f := 147) rfl ?_); refine g1 (some 19) Try.func147 #[.int .i64 a0, .agg #[.int .i64 a1_0, .int .i64 a1_1, .int .i64 a1_2], .agg #[.int .i64 a2_0, .int .i64 a2_1, .int .i64 a2_2]] ?_; (with_reducible refine (spec_l02Valuation.calls k a0 a1_0 a1_1 a1_2 a2_0 a2_1 a2_2 t136 true _ A5.out).mono ?_); rintro e w13 ⟨rfl, hb⟩; refine ⟨_, rfl, ?_⟩; replace BK134 := bb BK134 hb; replace BK135 := bb BK135 hb; replace HB := bs hb; (try clear hb); (try clear hb2); (try clear hk); (try clear hi)))
  go_ret
  exact ⟨by first | rfl | (simp [errW_none, errW_some] <;> rfl) | (simp only [← hji4, ← hji7]; first | rfl | (simp [errW_none, errW_some] <;> rfl)) | (simp [*, errW_none, errW_some] <;> rfl), by repeat (first | (with_reducible first | exact HB.out | apply below_alloc | apply pw_below_drewN | apply below_drew1 | refine below_set ?_ GE134.out | refine below_set ?_ GE135.out) | exact HB.out)⟩
 ·replace c6 := Bool.eq_false_iff.mpr c6
  subst c6
  have H1 : (some ji4) = some r := by rw [if_neg (show ¬ (false = true) by decide)] at H; exact H
  clear H
  have H := H1
  clear H1
  obtain rfl := Option.some.inj H
  go_enter Try.func114, Try.ntmps114
  go_wp2_with (first | ((with_reducible refine gate_dst (N := 4) rfl ?_); refine bx (N := 4) (cs := #[.int .i64 a1_0, .int .i64 a1_1, .int .i64 a1_2]) (t := 27) ?_; intro gb134 hg w14 hbox hb; have BK134 := Aside0.mk (hbox); have GW134 := sg hg; have GE134 := sg hg; replace HB := bs hb; clear hb hbox hg) | ((with_reducible refine gate_dst (N := 5) rfl ?_); refine bx (N := 5) (cs := #[.int .i64 a2_0, .int .i64 a2_1, .int .i64 a2_2]) (t := 27) ?_; intro gb135 hg w15 hbox hb; have BK135 := Aside0.mk (hbox); have GW135 := sg hg; have GE135 := sg hg; have NB134_135 := nl hg BK134; have NB135_134 := ng hg BK134; replace BK134 := bb BK134 hb; replace HB := bs hb; clear hb hbox hg; have hnb16 := NB134_135.out; have hnc16 := NB135_134.out; obtain ⟨hcz17_0, hcz17_1, hcz17_2, hfz17_0, hfz17_1, hfz17_2⟩ := c3 BK134; obtain ⟨hcz18_0, hcz18_1, hcz18_2, hfz18_0, hfz18_1, hfz18_2⟩ := c3 BK135) | ((with_reducible refine gate_callee (f := 147) rfl ?_); refine g1 (some 19) Try.func147 #[.int .i64 a0, .agg #[.int .i64 a1_0, .int .i64 a1_1, .int .i64 a1_2], .agg #[.int .i64 a2_0, .int .i64 a2_1, .int .i64 a2_2]] ?_; (with_reducible refine (spec_l02Valuation.calls k a0 a1_0 a1_1 a1_2 a2_0 a2_1 a2_2 t136 false _ A5.out).mono ?_); rintro e w19 ⟨rfl, hb⟩; refine ⟨_, rfl, ?_⟩; replace BK134 := bb BK134 hb; replace BK135 := bb BK135 hb; replace HB := bs hb; (try clear hb); (try clear hb2); (try clear hk); (try clear hi)))
  go_ret
  exact ⟨by first | rfl | (simp [errW_none, errW_some] <;> rfl) | (simp only [← hji4]; first | rfl | (simp [errW_none, errW_some] <;> rfl)) | (simp [*, errW_none, errW_some] <;> rfl), by repeat (first | (with_reducible first | exact HB.out | apply below_alloc | apply pw_below_drewN | apply below_drew1 | refine below_set ?_ GE134.out | refine below_set ?_ GE135.out) | exact HB.out)⟩

/-! ### spec_l02Way: function 82 -/
mutual
def spec_l02Way.l0 : Nat → Int → Int → List (S27) → Int → Int → Int → Int → Int → Int → Int → Option ((List (S27)) × Bool)
 | 0, _, _, _, _, _, _, _, _, _, _ => none
 | k + 1, x0, x8, x9, x10, x139000, x139001, x139002, x140000, x140001, x140002 => if x10 ≥ x8 then ((spec_l02Up.f k x0 x139000 x139001 x139002 x10).bind fun bt144 => (if bt144.2.2.2 = true then (if x9.length < 5864062014805 then (spec_l02Way.l0 k x0 x8 (x9 ++ [(⟨bt144.1, bt144.2.1, bt144.2.2.1⟩ : S27)]) (wrap64 (x10 - 1)) x139000 x139001 x139002 x140000 x140001 x140002) else (none)) else (some (([] : List (S27)), false)))) else (spec_l02Way.l1 k x0 x9 (wrap64 (x8 + 1)) x140000 x140001 x140002)
def spec_l02Way.l1 : Nat → Int → List (S27) → Int → Int → Int → Int → Option ((List (S27)) × Bool)
 | 0, _, _, _, _, _, _ => none
 | k + 1, x0, x9, x13, x140000, x140001, x140002 => if x13 ≤ x140000 then ((spec_l02Up.f k x0 x140000 x140001 x140002 x13).bind fun bt152 => (if bt152.2.2.2 = true then (if x9.length < 5864062014805 then (spec_l02Way.l1 k x0 (x9 ++ [(⟨bt152.1, bt152.2.1, bt152.2.2.1⟩ : S27)]) (wrap64 (x13 + 1)) x140000 x140001 x140002) else (none)) else (some (([] : List (S27)), false)))) else (some (x9, true))
end
def spec_l02Way.f (k : Nat) (a0 : Int) (a1_0 : Int) (a1_1 : Int) (a1_2 : Int) (a2_0 : Int) (a2_1 : Int) (a2_2 : Int) : Option ((List (S27)) × Bool) := (spec_l02Join.f k a0 a1_0 a1_1 a1_2 a2_0 a2_1 a2_2).bind fun t140 => (spec_l02Way.l0 k a0 t140 (([] : List (S27))) a1_0 a1_0 a1_1 a1_2 a2_0 a2_1 a2_2)
theorem spec_l02Way.mono_l : ∀ k, (∀ y0 y1 y2 y3 y4 y5 y6 y7 y8 y9, LeO (spec_l02Way.l0 k y0 y1 y2 y3 y4 y5 y6 y7 y8 y9) (spec_l02Way.l0 (k + 1) y0 y1 y2 y3 y4 y5 y6 y7 y8 y9)) ∧ (∀ y0 y1 y2 y3 y4 y5, LeO (spec_l02Way.l1 k y0 y1 y2 y3 y4 y5) (spec_l02Way.l1 (k + 1) y0 y1 y2 y3 y4 y5))
 | 0 => ⟨fun _ _ _ _ _ _ _ _ _ _ r h => by simp [spec_l02Way.l0] at h, fun _ _ _ _ _ _ r h => by simp [spec_l02Way.l1] at h⟩
 | k + 1 => by
  obtain ⟨ih0, ih1⟩ := spec_l02Way.mono_l k
  refine ⟨?_, ?_⟩
  ·intro y0 y1 y2 y3 y4 y5 y6 y7 y8 y9
   unfold spec_l02Way.l0
   repeat' first
   | (with_reducible exact ih0 _ _ _ _ _ _ _ _ _ _)
   | (with_reducible exact ih1 _ _ _ _ _ _)
   | (with_reducible exact spec_l02Join.mono _ _ _ _ _ _ _ _)
   | (with_reducible exact spec_l02Up.mono _ _ _ _ _ _)
   | (with_reducible exact LeO.refl _)
   | (with_reducible exact LeO.none _)
   | (with_reducible refine LeO.ite ?_ ?_)
   | (with_reducible refine LeO.bind ?_ (fun _ => ?_))
   | refine LeO.ite ?_ ?_
   | refine LeO.bind ?_ (fun _ => ?_)
  ·intro y0 y1 y2 y3 y4 y5
   unfold spec_l02Way.l1
   repeat' first
   | (with_reducible exact ih0 _ _ _ _ _ _ _ _ _ _)
   | (with_reducible exact ih1 _ _ _ _ _ _)
   | (with_reducible exact spec_l02Join.mono _ _ _ _ _ _ _ _)
   | (with_reducible exact spec_l02Up.mono _ _ _ _ _ _)
   | (with_reducible exact LeO.refl _)
   | (with_reducible exact LeO.none _)
   | (with_reducible refine LeO.ite ?_ ?_)
   | (with_reducible refine LeO.bind ?_ (fun _ => ?_))
   | refine LeO.ite ?_ ?_
   | refine LeO.bind ?_ (fun _ => ?_)
theorem spec_l02Way.mono : ∀ a0 a1 a2 a3 a4 a5 a6 k, LeO (spec_l02Way.f k a0 a1 a2 a3 a4 a5 a6) (spec_l02Way.f (k + 1) a0 a1 a2 a3 a4 a5 a6) := by
 intro a0 a1 a2 a3 a4 a5 a6 k
 obtain ⟨ih0, ih1⟩ := spec_l02Way.mono_l k
 unfold spec_l02Way.f
 repeat' first
   | (with_reducible exact ih0 _ _ _ _ _ _ _ _ _ _)
   | (with_reducible exact ih1 _ _ _ _ _ _)
   | (with_reducible exact spec_l02Join.mono _ _ _ _ _ _ _ _)
   | (with_reducible exact spec_l02Up.mono _ _ _ _ _ _)
   | (with_reducible exact LeO.refl _)
   | (with_reducible exact LeO.none _)
   | (with_reducible refine LeO.ite ?_ ?_)
   | (with_reducible refine LeO.bind ?_ (fun _ => ?_))
   | refine LeO.ite ?_ ?_
   | refine LeO.bind ?_ (fun _ => ?_)
set_option maxHeartbeats 8000000 in
set_option maxRecDepth 100000 in
theorem spec_l02Way.calls (k : Nat) (a0 : Int) (a1_0 : Int) (a1_1 : Int) (a1_2 : Int) (a2_0 : Int) (a2_1 : Int) (a2_2 : Int) (r1 : List (S27)) (r2 : Bool) (w : World) (h : spec_l02Way.f k a0 a1_0 a1_1 a1_2 a2_0 a2_1 a2_2 = some (r1, r2)) :
  Calls Try.prog 82 #[.int .i64 a0, .agg #[.int .i64 a1_0, .int .i64 a1_1, .int .i64 a1_2], .agg #[.int .i64 a2_0, .int .i64 a2_1, .int .i64 a2_2]] w fun e w' => ∃ v0_ : Value, e = .returned (.tuple #[v0_, .bool r2]) ∧ Kd.R k27 27 w' w.heap.size (fun _ => True) v0_ r1 ∧ Below w.heap.size w w' := by
 have hu27 := Try.underlying27
 have HB := Aside0.mk (Below.refl w.heap.size w)
 have H : ((spec_l02Join.f k a0 a1_0 a1_1 a1_2 a2_0 a2_1 a2_2).bind fun t140 => (spec_l02Way.l0 k a0 t140 (([] : List (S27))) a1_0 a1_0 a1_1 a1_2 a2_0 a2_1 a2_2)) = some (r1, r2) := h
 clear h
 replace H := Option.bind_eq_some_iff.mp H
 obtain ⟨t140, A40, H⟩ := H
 replace H : (spec_l02Way.l0 k a0 t140 (([] : List (S27))) a1_0 a1_0 a1_1 a1_2 a2_0 a2_1 a2_2) = some (r1, r2) := H
 have A4 := Aside0.mk A40
 clear A40
 obtain ⟨y141, hy141⟩ : ∃ y_ : List (S27), y_ = (([] : List (S27))) := ⟨_, rfl⟩
 replace H : (spec_l02Way.l0 k a0 t140 y141 a1_0 a1_0 a1_1 a1_2 a2_0 a2_1 a2_2) = some (r1, r2) := by first | (rw [hy141]; with_reducible exact H) | (have H2_ := (Option.bind_some _ _).symm.trans H; rw [hy141]; with_reducible exact H2_) | (have H2_ := (Option.bind_some _ _).symm.trans H; with_reducible exact H2_) | with_reducible exact H | (rw [hy141]; exact H) | exact H
 have Ny141 := Aside0.mk hy141
 clear hy141
 have H' := Aside0.mk H
 clear H
 go_enter Try.func82, Try.ntmps82
 go_wp2_with (first | ((with_reducible refine gate_dst (N := 4) rfl ?_); refine bx (N := 4) (cs := #[.int .i64 a1_0, .int .i64 a1_1, .int .i64 a1_2]) (t := 27) ?_; intro gb138 hg w5 hbox hb; have BK138 := Aside0.mk (hbox); have GW138 := sg hg; have GE138 := sg hg; replace HB := bs hb; clear hb hbox hg) | ((with_reducible refine gate_dst (N := 5) rfl ?_); refine bx (N := 5) (cs := #[.int .i64 a2_0, .int .i64 a2_1, .int .i64 a2_2]) (t := 27) ?_; intro gb139 hg w6 hbox hb; have BK139 := Aside0.mk (hbox); have GW139 := sg hg; have GE139 := sg hg; have NB138_139 := nl hg BK138; have NB139_138 := ng hg BK138; replace BK138 := bb BK138 hb; replace HB := bs hb; clear hb hbox hg; have hnb7 := NB138_139.out; have hnc7 := NB139_138.out; obtain ⟨hcz8_0, hcz8_1, hcz8_2, hfz8_0, hfz8_1, hfz8_2⟩ := c3 BK138; obtain ⟨hcz9_0, hcz9_1, hcz9_2, hfz9_0, hfz9_1, hfz9_2⟩ := c3 BK139) | ((with_reducible refine gate_callee (f := 114) rfl ?_); refine g1 (some 19) Try.func114 #[.int .i64 a0, .agg #[.int .i64 a1_0, .int .i64 a1_1, .int .i64 a1_2], .agg #[.int .i64 a2_0, .int .i64 a2_1, .int .i64 a2_2]] ?_; (with_reducible refine (spec_l02Join.calls k a0 a1_0 a1_1 a1_2 a2_0 a2_1 a2_2 t140 _ A4.out).mono ?_); rintro e w10 ⟨rfl, hb⟩; refine ⟨_, rfl, ?_⟩; replace BK138 := bb BK138 hb; replace BK139 := bb BK139 hb; replace HB := bs hb; (try clear hb); (try clear hb2); (try clear hk); (try clear hi)) | ((with_reducible refine gate_dst (N := 20) rfl ?_); refine Kd.R_lit k27 _ 27 ?hg (N := 20) ?hd (xs := ([] : List (S27))) (inner := []) (ok := fun _ => True) (okp := fun _ => True) ?hr ?hp (fun _ hk => hk) trivial (Below.refl _ _) (Nat.le_refl _) (by simp) ?_; (case hd => rfl); (case hg => rfl); (case hr => first | (go_simp; done) | (go_simp; rfl)); (case hp => exact (Reps.none _ _)); intro v142 w11 ho12 hb hg_ hnew_; clear hg_ hnew_; (first | rw [← Ny141.out] at ho12 | (simp only [Int.reduceToNat] at ho12; rw [← Ny141.out] at ho12)); have HO143 := Aside0.mk (Kd.R_lower (Kd.R_newB (Kd.R_newB ho12 (g := gb138) (o := .cells #[.int .i64 a1_0, .int .i64 a1_1, .int .i64 a1_2] 27 (0, 0)) (be BK138)) (g := gb139) (o := .cells #[.int .i64 a2_0, .int .i64 a2_1, .int .i64 a2_2] 27 (0, 0)) (be BK139)) (below_size (by repeat (first | (with_reducible first | exact HB.out | apply below_alloc | apply pw_below_drewN | apply below_drew1 | refine below_set ?_ GE138.out | refine below_set ?_ GE139.out) | exact HB.out)))); replace BK138 := bb BK138 hb; replace BK139 := bb BK139 hb; replace HB := bs hb; clear hb ho12; obtain ⟨hcz13_0, hcz13_1, hcz13_2, hfz13_0, hfz13_1, hfz13_2⟩ := c3 BK138))
 go_loopg [9, 10] k (fun kq v9 v10 w' => ∃ (x9_1 : List (S27)) (x10_1 : Int), v10 = .int .i64 x10_1 ∧ Aside0 (spec_l02Way.l0 kq a0 t140 x9_1 x10_1 a1_0 a1_1 a1_2 a2_0 a2_1 a2_2 = some (r1, r2)) ∧ Aside0 (kq ≤ k) ∧ Aside0 (Kd.R k27 27 w' w.heap.size (fun k_ => k_ ≠ gb138 ∧ k_ ≠ gb139) v9 x9_1) ∧ Aside0 (w'.heap[gb138]? = some (.cells #[.int .i64 a1_0, .int .i64 a1_1, .int .i64 a1_2] 27 (0, 0))) ∧ Aside0 (w'.heap[gb139]? = some (.cells #[.int .i64 a2_0, .int .i64 a2_1, .int .i64 a2_2] 27 (0, 0))) ∧ Aside0 (Below w.heap.size w w'))
 case atStart => exact ⟨(y141), (a1_0), (by first | rfl | (simp; done) | (simp [*]; done)), H', ⟨Nat.le_refl _⟩, ⟨by (with_reducible repeat (first | apply Kd.R_alloc | apply Kd.R_drewN | apply Kd.R_drew)); exact Kd.R_mono HO143.out (fun _ hk => ⟨hk.1.2, hk.2⟩)⟩, ⟨be BK138⟩, ⟨be BK139⟩, ⟨by repeat (first | (with_reducible first | exact HB.out | apply below_alloc | apply pw_below_drewN | apply below_drew1 | refine below_set ?_ GE138.out | refine below_set ?_ GE139.out) | exact HB.out)⟩⟩
 case round =>
  clear H'
  try clear c1
  try clear p2
  try clear c7
  try clear c8
  try clear c11
  try clear hcz13_0 hcz13_1 hcz13_2
  try clear hcz8_0 hcz8_1 hcz8_2
  try clear hcz9_0 hcz9_1 hcz9_2
  try clear hfz13_0 hfz13_1 hfz13_2
  try clear hfz8_0 hfz8_1 hfz8_2
  try clear hfz9_0 hfz9_1 hfz9_2
  obtain ⟨x9_1, x10_1, rfl, HA, HK1, HO_9, BK138, BK139, HB⟩ := hrel
  cases gk with
  | zero => exact absurd HA.out (by simp [spec_l02Way.l0])
  | succ k1 =>
   have H := HA.out
   clear HA
   simp only [spec_l02Way.l0] at H
   by_cases c14 : x10_1 ≥ t140
   ·rw [if_pos c14] at H
    have c14b0 : decide (t140 ≤ x10_1) = true := decide_eq_true c14
    clear c14
    replace H := Option.bind_eq_some_iff.mp H
    obtain ⟨⟨t144, t145, t146, t147⟩, A150, H⟩ := H
    replace H : (if t147 = true then (if x9_1.length < 5864062014805 then (spec_l02Way.l0 k1 a0 t140 (x9_1 ++ [(⟨t144, t145, t146⟩ : S27)]) (wrap64 (x10_1 - 1)) a1_0 a1_1 a1_2 a2_0 a2_1 a2_2) else (none)) else (some (([] : List (S27)), false))) = some (r1, r2) := H
    have A15 := Aside0.mk A150
    clear A150
    by_cases c16 : t147 = true
    ·subst c16
     have H1 : (if x9_1.length < 5864062014805 then (spec_l02Way.l0 k1 a0 t140 (x9_1 ++ [(⟨t144, t145, t146⟩ : S27)]) (wrap64 (x10_1 - 1)) a1_0 a1_1 a1_2 a2_0 a2_1 a2_2) else (none)) = some (r1, r2) := by rw [if_pos rfl] at H; exact H
     clear H
     have H := H1
     clear H1
     by_cases c17 : x9_1.length < 5864062014805
     ·rw [if_pos c17] at H
      have LMc17 := Aside0.mk c17
      clear c17
      obtain ⟨y149, hy149⟩ : ∃ y_ : List (S27), y_ = (x9_1 ++ [(⟨t144, t145, t146⟩ : S27)]) := ⟨_, rfl⟩
      replace H : (spec_l02Way.l0 k1 a0 t140 y149 (wrap64 (x10_1 - 1)) a1_0 a1_1 a1_2 a2_0 a2_1 a2_2) = some (r1, r2) := by first | (rw [hy149]; with_reducible exact H) | (have H2_ := (Option.bind_some _ _).symm.trans H; rw [hy149]; with_reducible exact H2_) | (have H2_ := (Option.bind_some _ _).symm.trans H; with_reducible exact H2_) | with_reducible exact H | (rw [hy149]; exact H) | exact H
      have Ny149 := Aside0.mk hy149
      clear hy149
      have H' := Aside0.mk H
      clear H
      have hnb18 := NB138_139.out
      have hnc18 := NB139_138.out
      have hcz19_0 : wr.cell? ⟨gb138, 0, none⟩ = some (.int .i64 a1_0) := (blk_cell BK138.out 0).trans rfl
      have hcz19_1 : wr.cell? ⟨gb138, 1, none⟩ = some (.int .i64 a1_1) := (blk_cell BK138.out 1).trans rfl
      have hcz19_2 : wr.cell? ⟨gb138, 2, none⟩ = some (.int .i64 a1_2) := (blk_cell BK138.out 2).trans rfl
      have hfz19_0 := blk_frozen BK138.out 0
      have hfz19_1 := blk_frozen BK138.out 1
      have hfz19_2 := blk_frozen BK138.out 2
      go_wp2_with (first | ((with_reducible refine gate_callee (f := 113) rfl ?_); refine g1 (some 32) Try.func113 #[.int .i64 a0, .agg #[.int .i64 a1_0, .int .i64 a1_1, .int .i64 a1_2], .int .i64 x10_1] ?_; (with_reducible refine (spec_l02Up.calls k1 a0 a1_0 a1_1 a1_2 x10_1 t144 t145 t146 true _ A15.out).mono ?_); rintro e w20 ⟨rfl, hb⟩; refine ⟨_, rfl, ?_⟩; replace HO_9 := Aside0.mk (Kd.R_below (by (with_reducible repeat (first | apply Kd.R_alloc | apply Kd.R_drewN | apply Kd.R_drew)); exact HO_9.out) hb); replace BK138 := bb BK138 hb; replace BK139 := bb BK139 hb; replace HB := bs hb; (try clear hb); (try clear hb2); (try clear hk); (try clear hi)) | ((with_reducible refine gate_dst (N := 11) rfl ?_); refine bx (N := 11) (cs := #[.int .i64 0, .int .i64 0, .int .i64 0]) (t := 27) ?_; intro gb148 hg w21 hbox hb; have BK148 := Aside0.mk (hbox); have GW148 := sg hg; have GE148 := sg hg; have NB138_148 := nl hg BK138; have NB148_138 := ng hg BK138; have NB139_148 := nl hg BK139; have NB148_139 := ng hg BK139; replace HO_9 := Aside0.mk (Kd.R_below (Kd.R_elderB (by (with_reducible repeat (first | apply Kd.R_alloc | apply Kd.R_drewN | apply Kd.R_drew)); exact HO_9.out) gb148 (Nat.le_of_eq hg.symm)) hb); replace BK138 := bb BK138 hb; replace BK139 := bb BK139 hb; replace HB := bs hb; clear hb hbox hg; have hnb22 := NB148_138.out; have hnc22 := NB138_148.out; have hnb23 := NB148_139.out; have hnc23 := NB139_148.out; obtain ⟨hcz24_0, hcz24_1, hcz24_2, hfz24_0, hfz24_1, hfz24_2⟩ := c3 BK148) | ((with_reducible refine gate_builtin (b := .append) (xs := #[.tmp 37, .tmp 39]) rfl ?_); at_builtin; refine Kd.R_append k27 (w0 := w) w.heap.size rfl (.tmp 37) (.tmp 39) 24 27 (.agg #[(.int .i64 0), (.int .i64 0), (.int .i64 0)]) 24 rfl Try.underlying24 info27 rfl (by decide) (by omega) u9 x9_1 (⟨t144, t145, t146⟩ : S27) [.int .i64 t144, .int .i64 t145, .int .i64 t146] (fun k_ => k_ ≠ gb138 ∧ k_ ≠ gb139 ∧ k_ ≠ gb148) (fun _ => False) rfl (by first | (go_simp; done) | (go_simp; rfl)) ?aP (fun _ hk => hk.elim) ?aF ?aO ?aB ?aS ?aL ?_; (case aP => exact k27_mkM _ _ _ (⟨t144, t145, t146⟩ : S27)); (case aB => exact (by repeat (first | (with_reducible first | exact HB.out | apply below_alloc | apply pw_below_drewN | apply below_drew1 | refine below_set ?_ GE138.out | refine below_set ?_ GE139.out | refine below_set ?_ GE148.out) | exact HB.out))); (case aF => exact (fun k_ hk => ⟨Kd.freshB (g := gb138) (o := .cells #[.int .i64 a1_0, .int .i64 a1_1, .int .i64 a1_2] 27 (0, 0)) (by (with_reducible repeat (first | apply bn | apply bd | apply ba)); refine blk_far ?_ NB138_148.out _; (with_reducible repeat (first | apply bn | apply bd | apply ba)); refine blk_far ?_ NB138_148.out _; (with_reducible repeat (first | apply bn | apply bd | apply ba)); refine blk_far ?_ NB138_148.out _; (with_reducible repeat (first | apply bn | apply bd | apply ba)); exact BK138.out) k_ hk, Kd.freshB (g := gb139) (o := .cells #[.int .i64 a2_0, .int .i64 a2_1, .int .i64 a2_2] 27 (0, 0)) (by (with_reducible repeat (first | apply bn | apply bd | apply ba)); refine blk_far ?_ NB139_148.out _; (with_reducible repeat (first | apply bn | apply bd | apply ba)); refine blk_far ?_ NB139_148.out _; (with_reducible repeat (first | apply bn | apply bd | apply ba)); refine blk_far ?_ NB139_148.out _; (with_reducible repeat (first | apply bn | apply bd | apply ba)); exact BK139.out) k_ hk, Kd.freshB (g := gb148) (o := .cells #[.int .i64 t144, .int .i64 t145, .int .i64 t146] 27 (0, 0)) (by (with_reducible repeat (first | apply bn | apply bd | apply ba)); refine blk_put (cs := #[.int .i64 t144, .int .i64 t145, .int .i64 0]) ?_ 2 _ rfl; (with_reducible repeat (first | apply bn | apply bd | apply ba)); refine blk_put (cs := #[.int .i64 t144, .int .i64 0, .int .i64 0]) ?_ 1 _ rfl; (with_reducible repeat (first | apply bn | apply bd | apply ba)); refine blk_put (cs := #[.int .i64 0, .int .i64 0, .int .i64 0]) ?_ 0 _ rfl; (with_reducible repeat (first | apply bn | apply bd | apply ba)); exact BK148.out) k_ hk⟩)); (case aO => exact (by (with_reducible repeat (first | apply Kd.R_alloc | apply Kd.R_drewN | apply Kd.R_drew)); exact Kd.R_mono (Kd.R_far (p := ⟨gb148, 2, none⟩) (Kd.R_far (p := ⟨gb148, 1, none⟩) (Kd.R_far (p := ⟨gb148, 0, none⟩) (Kd.R_mono HO_9.out (fun k_ hk => (⟨hk, hk.2⟩ : _ ∧ k_ ≠ gb148))) (fun _ hk => hk.2) (.int .i64 t144)) (fun _ hk => hk.2) (.int .i64 t145)) (fun _ hk => hk.2) (.int .i64 t146)) (fun _ hk => ⟨hk.1.1.1, ⟨hk.1.1.2, hk.1.2⟩⟩))); (case aS => exact (below_size (by repeat (first | (with_reducible first | exact HB.out | apply below_alloc | apply pw_below_drewN | apply below_drew1 | refine below_set ?_ GE138.out | refine below_set ?_ GE139.out | refine below_set ?_ GE148.out) | exact HB.out)))); (case aL => have := LMc17.out; omega); intro v150 w25 ho hb hg hat; rw [← Ny149.out] at ho; have n0_ := Aside0.mk (blk_grown (g := gb138) (o := .cells #[.int .i64 a1_0, .int .i64 a1_1, .int .i64 a1_2] 27 (0, 0)) (by (with_reducible repeat (first | apply bn | apply bd | apply ba)); refine blk_far ?_ NB138_148.out _; (with_reducible repeat (first | apply bn | apply bd | apply ba)); refine blk_far ?_ NB138_148.out _; (with_reducible repeat (first | apply bn | apply bd | apply ba)); refine blk_far ?_ NB138_148.out _; (with_reducible repeat (first | apply bn | apply bd | apply ba)); exact BK138.out) hg (Kd.R_away HO_9.out (fun _ hk => hk.1.1))); have n1_ := Aside0.mk (blk_grown (g := gb139) (o := .cells #[.int .i64 a2_0, .int .i64 a2_1, .int .i64 a2_2] 27 (0, 0)) (by (with_reducible repeat (first | apply bn | apply bd | apply ba)); refine blk_far ?_ NB139_148.out _; (with_reducible repeat (first | apply bn | apply bd | apply ba)); refine blk_far ?_ NB139_148.out _; (with_reducible repeat (first | apply bn | apply bd | apply ba)); refine blk_far ?_ NB139_148.out _; (with_reducible repeat (first | apply bn | apply bd | apply ba)); exact BK139.out) hg (Kd.R_away HO_9.out (fun _ hk => hk.1.2))); have n2_ := Aside0.mk (blk_grown (g := gb148) (o := .cells #[.int .i64 t144, .int .i64 t145, .int .i64 t146] 27 (0, 0)) (by (with_reducible repeat (first | apply bn | apply bd | apply ba)); refine blk_put (cs := #[.int .i64 t144, .int .i64 t145, .int .i64 0]) ?_ 2 _ rfl; (with_reducible repeat (first | apply bn | apply bd | apply ba)); refine blk_put (cs := #[.int .i64 t144, .int .i64 0, .int .i64 0]) ?_ 1 _ rfl; (with_reducible repeat (first | apply bn | apply bd | apply ba)); refine blk_put (cs := #[.int .i64 0, .int .i64 0, .int .i64 0]) ?_ 0 _ rfl; (with_reducible repeat (first | apply bn | apply bd | apply ba)); exact BK148.out) hg (Kd.R_away HO_9.out (fun _ hk => hk.2))); have n3_ := Aside0.mk (hb); have n4_ := Aside0.mk (ho); clear BK138; clear BK139; clear BK148; clear HB; clear HO_9; have BK138 := n0_; have BK139 := n1_; have BK148 := n2_; have HB := n3_; have HO151 := n4_; clear n0_ n1_ n2_ n3_ n4_; clear ho hb hg hat))
      go_roundg k1
      case measure => have := HK1.out; omega
      case rel => exact ⟨(y149), (wrap64 (x10_1 - 1)), (by first | rfl | (simp; done) | (simp [*]; done)), H', ⟨by have := HK1.out; omega⟩, ⟨by (with_reducible repeat (first | apply Kd.R_alloc | apply Kd.R_drewN | apply Kd.R_drew)); exact Kd.R_mono HO151.out (fun _ hk => ⟨hk.1, hk.2.1⟩)⟩, ⟨be BK138⟩, ⟨be BK139⟩, ⟨by repeat (first | (with_reducible first | exact HB.out | apply below_alloc | apply pw_below_drewN | apply below_drew1 | refine below_set ?_ GE138.out | refine below_set ?_ GE139.out | refine below_set ?_ GE148.out) | exact HB.out)⟩⟩
     ·rw [if_neg c17] at H
      exact absurd H (by simp)
    ·replace c16 := Bool.eq_false_iff.mpr c16
     subst c16
     have H1 : (some (([] : List (S27)), false)) = some (r1, r2) := by rw [if_neg (show ¬ (false = true) by decide)] at H; exact H
     clear H
     have H := H1
     clear H1
     simp only [Option.some.injEq, Prod.mk.injEq] at H
     obtain ⟨rfl, rfl⟩ := H
     have hnb26 := NB138_139.out
     have hnc26 := NB139_138.out
     have hcz27_0 : wr.cell? ⟨gb138, 0, none⟩ = some (.int .i64 a1_0) := (blk_cell BK138.out 0).trans rfl
     have hcz27_1 : wr.cell? ⟨gb138, 1, none⟩ = some (.int .i64 a1_1) := (blk_cell BK138.out 1).trans rfl
     have hcz27_2 : wr.cell? ⟨gb138, 2, none⟩ = some (.int .i64 a1_2) := (blk_cell BK138.out 2).trans rfl
     have hfz27_0 := blk_frozen BK138.out 0
     have hfz27_1 := blk_frozen BK138.out 1
     have hfz27_2 := blk_frozen BK138.out 2
     go_wp2_with (first | ((with_reducible refine gate_callee (f := 113) rfl ?_); refine g1 (some 32) Try.func113 #[.int .i64 a0, .agg #[.int .i64 a1_0, .int .i64 a1_1, .int .i64 a1_2], .int .i64 x10_1] ?_; (with_reducible refine (spec_l02Up.calls k1 a0 a1_0 a1_1 a1_2 x10_1 t144 t145 t146 false _ A15.out).mono ?_); rintro e w28 ⟨rfl, hb⟩; refine ⟨_, rfl, ?_⟩; replace HO_9 := Aside0.mk (Kd.R_below (by (with_reducible repeat (first | apply Kd.R_alloc | apply Kd.R_drewN | apply Kd.R_drew)); exact HO_9.out) hb); replace BK138 := bb BK138 hb; replace BK139 := bb BK139 hb; replace HB := bs hb; (try clear hb); (try clear hb2); (try clear hk); (try clear hi)) | ((with_reducible refine gate_dst (N := 11) rfl ?_); refine bx (N := 11) (cs := #[.int .i64 0, .int .i64 0, .int .i64 0]) (t := 27) ?_; intro gb148 hg w29 hbox hb; have BK148 := Aside0.mk (hbox); have GW148 := sg hg; have GE148 := sg hg; have NB138_148 := nl hg BK138; have NB148_138 := ng hg BK138; have NB139_148 := nl hg BK139; have NB148_139 := ng hg BK139; replace HO_9 := Aside0.mk (Kd.R_below (Kd.R_elderB (by (with_reducible repeat (first | apply Kd.R_alloc | apply Kd.R_drewN | apply Kd.R_drew)); exact HO_9.out) gb148 (Nat.le_of_eq hg.symm)) hb); replace BK138 := bb BK138 hb; replace BK139 := bb BK139 hb; replace HB := bs hb; clear hb hbox hg; have hnb30 := NB148_138.out; have hnc30 := NB138_148.out; have hnb31 := NB148_139.out; have hnc31 := NB139_148.out; obtain ⟨hcz32_0, hcz32_1, hcz32_2, hfz32_0, hfz32_1, hfz32_2⟩ := c3 BK148))
     go_ret2
     exact ⟨_, by first | rfl | (simp [errW_none, errW_some] <;> rfl) | (simp [*, errW_none, errW_some] <;> rfl), by first | exact Kd.R_nil _ _ _ _ _ | exact Kd.N_nil _ _ _ _ _ | exact Kd.V_nil _ _ _ _ _ | exact Kd.Q_nil _ _ _ _ _ | exact Kd.S_nil _ _ _ _ _, by repeat (first | (with_reducible first | exact HB.out | apply below_alloc | apply pw_below_drewN | apply below_drew1 | refine below_set ?_ GE138.out | refine below_set ?_ GE139.out | refine below_set ?_ GE148.out) | exact HB.out)⟩
   ·rw [if_neg c14] at H
    have c14b0 : decide (t140 ≤ x10_1) = false := decide_eq_false c14
    clear c14
    have H' := Aside0.mk H
    clear H
    go_wp2
    go_loopg [9, 13] k1 (fun kq v9 v13 w' => ∃ (x9_2 : List (S27)) (x13_2 : Int), v13 = .int .i64 x13_2 ∧ Aside0 (spec_l02Way.l1 kq a0 x9_2 x13_2 a2_0 a2_1 a2_2 = some (r1, r2)) ∧ Aside0 (kq ≤ k1) ∧ Aside0 (Kd.R k27 27 w' w.heap.size (fun k_ => k_ ≠ gb138 ∧ k_ ≠ gb139) v9 x9_2) ∧ Aside0 (w'.heap[gb138]? = some (.cells #[.int .i64 a1_0, .int .i64 a1_1, .int .i64 a1_2] 27 (0, 0))) ∧ Aside0 (w'.heap[gb139]? = some (.cells #[.int .i64 a2_0, .int .i64 a2_1, .int .i64 a2_2] 27 (0, 0))) ∧ Aside0 (Below w.heap.size w w'))
    case atStart => exact ⟨(x9_1), (wrap64 (t140 + 1)), (by first | rfl | (simp; done) | (simp [*]; done)), H', ⟨Nat.le_refl _⟩, ⟨by (with_reducible repeat (first | apply Kd.R_alloc | apply Kd.R_drewN | apply Kd.R_drew)); exact HO_9.out⟩, ⟨be BK138⟩, ⟨be BK139⟩, ⟨by repeat (first | (with_reducible first | exact HB.out | apply below_alloc | apply pw_below_drewN | apply below_drew1 | refine below_set ?_ GE138.out | refine below_set ?_ GE139.out) | exact HB.out)⟩⟩
    case round =>
     clear H'
     try clear c1
     try clear c2
     try clear p2
     try clear c3
     try clear p6
     try clear c7
     try clear c8
     try clear c11
     try clear c14
     try clear c14b0
     try clear c16
     try clear c17
     try clear c18
     try clear c22
     try clear c23
     try clear c26
     try clear c30
     try clear c31
     try clear hcz13_0 hcz13_1 hcz13_2
     try clear hcz19_0 hcz19_1 hcz19_2
     try clear hcz24_0 hcz24_1 hcz24_2
     try clear hcz27_0 hcz27_1 hcz27_2
     try clear hcz32_0 hcz32_1 hcz32_2
     try clear hcz8_0 hcz8_1 hcz8_2
     try clear hcz9_0 hcz9_1 hcz9_2
     try clear hfz13_0 hfz13_1 hfz13_2
     try clear hfz19_0 hfz19_1 hfz19_2
     try clear hfz24_0 hfz24_1 hfz24_2
     try clear hfz27_0 hfz27_1 hfz27_2
     try clear hfz32_0 hfz32_1 hfz32_2
     try clear hfz8_0 hfz8_1 hfz8_2
     try clear hfz9_0 hfz9_1 hfz9_2
     try clear p2
     obtain ⟨x9_2, x13_2, rfl, HA, HK2, HO_9, BK138, BK139, HB⟩ := hrel
     cases gk with
     | zero => exact absurd HA.out (by simp [spec_l02Way.l1])
     | succ k2 =>
      have H := HA.out
      clear HA
      simp only [spec_l02Way.l1] at H
      by_cases c33 : x13_2 ≤ a2_0
      ·rw [if_pos c33] at H
       have c33b0 : decide (x13_2 ≤ a2_0) = true := decide_eq_true c33
       clear c33
       replace H := Option.bind_eq_some_iff.mp H
       obtain ⟨⟨t152, t153, t154, t155⟩, A340, H⟩ := H
       replace H : (if t155 = true then (if x9_2.length < 5864062014805 then (spec_l02Way.l1 k2 a0 (x9_2 ++ [(⟨t152, t153, t154⟩ : S27)]) (wrap64 (x13_2 + 1)) a2_0 a2_1 a2_2) else (none)) else (some (([] : List (S27)), false))) = some (r1, r2) := H
       have A34 := Aside0.mk A340
       clear A340
       by_cases c35 : t155 = true
       ·subst c35
        have H1 : (if x9_2.length < 5864062014805 then (spec_l02Way.l1 k2 a0 (x9_2 ++ [(⟨t152, t153, t154⟩ : S27)]) (wrap64 (x13_2 + 1)) a2_0 a2_1 a2_2) else (none)) = some (r1, r2) := by rw [if_pos rfl] at H; exact H
        clear H
        have H := H1
        clear H1
        by_cases c36 : x9_2.length < 5864062014805
        ·rw [if_pos c36] at H
         have LMc36 := Aside0.mk c36
         clear c36
         obtain ⟨y157, hy157⟩ : ∃ y_ : List (S27), y_ = (x9_2 ++ [(⟨t152, t153, t154⟩ : S27)]) := ⟨_, rfl⟩
         replace H : (spec_l02Way.l1 k2 a0 y157 (wrap64 (x13_2 + 1)) a2_0 a2_1 a2_2) = some (r1, r2) := by first | (rw [hy157]; with_reducible exact H) | (have H2_ := (Option.bind_some _ _).symm.trans H; rw [hy157]; with_reducible exact H2_) | (have H2_ := (Option.bind_some _ _).symm.trans H; with_reducible exact H2_) | with_reducible exact H | (rw [hy157]; exact H) | exact H
         have Ny157 := Aside0.mk hy157
         clear hy157
         have H' := Aside0.mk H
         clear H
         have hnb37 := NB139_138.out
         have hnc37 := NB138_139.out
         have hcz38_0 : wr.cell? ⟨gb139, 0, none⟩ = some (.int .i64 a2_0) := (blk_cell BK139.out 0).trans rfl
         have hcz38_1 : wr.cell? ⟨gb139, 1, none⟩ = some (.int .i64 a2_1) := (blk_cell BK139.out 1).trans rfl
         have hcz38_2 : wr.cell? ⟨gb139, 2, none⟩ = some (.int .i64 a2_2) := (blk_cell BK139.out 2).trans rfl
         have hfz38_0 := blk_frozen BK139.out 0
         have hfz38_1 := blk_frozen BK139.out 1
         have hfz38_2 := blk_frozen BK139.out 2
         go_wp2_with (first | ((with_reducible refine gate_callee (f := 113) rfl ?_); refine g1 (some 53) Try.func113 #[.int .i64 a0, .agg #[.int .i64 a2_0, .int .i64 a2_1, .int .i64 a2_2], .int .i64 x13_2] ?_; (with_reducible refine (spec_l02Up.calls k2 a0 a2_0 a2_1 a2_2 x13_2 t152 t153 t154 true _ A34.out).mono ?_); rintro e w39 ⟨rfl, hb⟩; refine ⟨_, rfl, ?_⟩; replace HO_9 := Aside0.mk (Kd.R_below (by (with_reducible repeat (first | apply Kd.R_alloc | apply Kd.R_drewN | apply Kd.R_drew)); exact HO_9.out) hb); replace BK138 := bb BK138 hb; replace BK139 := bb BK139 hb; replace HB := bs hb; (try clear hb); (try clear hb2); (try clear hk); (try clear hi)) | ((with_reducible refine gate_dst (N := 14) rfl ?_); refine bx (N := 14) (cs := #[.int .i64 0, .int .i64 0, .int .i64 0]) (t := 27) ?_; intro gb156 hg w40 hbox hb; have BK156 := Aside0.mk (hbox); have GW156 := sg hg; have GE156 := sg hg; have NB138_156 := nl hg BK138; have NB156_138 := ng hg BK138; have NB139_156 := nl hg BK139; have NB156_139 := ng hg BK139; replace HO_9 := Aside0.mk (Kd.R_below (Kd.R_elderB (by (with_reducible repeat (first | apply Kd.R_alloc | apply Kd.R_drewN | apply Kd.R_drew)); exact HO_9.out) gb156 (Nat.le_of_eq hg.symm)) hb); replace BK138 := bb BK138 hb; replace BK139 := bb BK139 hb; replace HB := bs hb; clear hb hbox hg; have hnb41 := NB156_138.out; have hnc41 := NB138_156.out; have hnb42 := NB156_139.out; have hnc42 := NB139_156.out; obtain ⟨hcz43_0, hcz43_1, hcz43_2, hfz43_0, hfz43_1, hfz43_2⟩ := c3 BK156) | ((with_reducible refine gate_builtin (b := .append) (xs := #[.tmp 58, .tmp 60]) rfl ?_); at_builtin; refine Kd.R_append k27 (w0 := w) w.heap.size rfl (.tmp 58) (.tmp 60) 24 27 (.agg #[(.int .i64 0), (.int .i64 0), (.int .i64 0)]) 24 rfl Try.underlying24 info27 rfl (by decide) (by omega) u9 x9_2 (⟨t152, t153, t154⟩ : S27) [.int .i64 t152, .int .i64 t153, .int .i64 t154] (fun k_ => k_ ≠ gb138 ∧ k_ ≠ gb139 ∧ k_ ≠ gb156) (fun _ => False) rfl (by first | (go_simp; done) | (go_simp; rfl)) ?aP (fun _ hk => hk.elim) ?aF ?aO ?aB ?aS ?aL ?_; (case aP => exact k27_mkM _ _ _ (⟨t152, t153, t154⟩ : S27)); (case aB => exact (by repeat (first | (with_reducible first | exact HB.out | apply below_alloc | apply pw_below_drewN | apply below_drew1 | refine below_set ?_ GE138.out | refine below_set ?_ GE139.out | refine below_set ?_ GE156.out) | exact HB.out))); (case aF => exact (fun k_ hk => ⟨Kd.freshB (g := gb138) (o := .cells #[.int .i64 a1_0, .int .i64 a1_1, .int .i64 a1_2] 27 (0, 0)) (by (with_reducible repeat (first | apply bn | apply bd | apply ba)); refine blk_far ?_ NB138_156.out _; (with_reducible repeat (first | apply bn | apply bd | apply ba)); refine blk_far ?_ NB138_156.out _; (with_reducible repeat (first | apply bn | apply bd | apply ba)); refine blk_far ?_ NB138_156.out _; (with_reducible repeat (first | apply bn | apply bd | apply ba)); exact BK138.out) k_ hk, Kd.freshB (g := gb139) (o := .cells #[.int .i64 a2_0, .int .i64 a2_1, .int .i64 a2_2] 27 (0, 0)) (by (with_reducible repeat (first | apply bn | apply bd | apply ba)); refine blk_far ?_ NB139_156.out _; (with_reducible repeat (first | apply bn | apply bd | apply ba)); refine blk_far ?_ NB139_156.out _; (with_reducible repeat (first | apply bn | apply bd | apply ba)); refine blk_far ?_ NB139_156.out _; (with_reducible repeat (first | apply bn | apply bd | apply ba)); exact BK139.out) k_ hk, Kd.freshB (g := gb156) (o := .cells #[.int .i64 t152, .int .i64 t153, .int .i64 t154] 27 (0, 0)) (by (with_reducible repeat (first | apply bn | apply bd | apply ba)); refine blk_put (cs := #[.int .i64 t152, .int .i64 t153, .int .i64 0]) ?_ 2 _ rfl; (with_reducible repeat (first | apply bn | apply bd | apply ba)); refine blk_put (cs := #[.int .i64 t152, .int .i64 0, .int .i64 0]) ?_ 1 _ rfl; (with_reducible repeat (first | apply bn | apply bd | apply ba)); refine blk_put (cs := #[.int .i64 0, .int .i64 0, .int .i64 0]) ?_ 0 _ rfl; (with_reducible repeat (first | apply bn | apply bd | apply ba)); exact BK156.out) k_ hk⟩)); (case aO => exact (by (with_reducible repeat (first | apply Kd.R_alloc | apply Kd.R_drewN | apply Kd.R_drew)); exact Kd.R_mono (Kd.R_far (p := ⟨gb156, 2, none⟩) (Kd.R_far (p := ⟨gb156, 1, none⟩) (Kd.R_far (p := ⟨gb156, 0, none⟩) (Kd.R_mono HO_9.out (fun k_ hk => (⟨hk, hk.2⟩ : _ ∧ k_ ≠ gb156))) (fun _ hk => hk.2) (.int .i64 t152)) (fun _ hk => hk.2) (.int .i64 t153)) (fun _ hk => hk.2) (.int .i64 t154)) (fun _ hk => ⟨hk.1.1.1, ⟨hk.1.1.2, hk.1.2⟩⟩))); (case aS => exact (below_size (by repeat (first | (with_reducible first | exact HB.out | apply below_alloc | apply pw_below_drewN | apply below_drew1 | refine below_set ?_ GE138.out | refine below_set ?_ GE139.out | refine below_set ?_ GE156.out) | exact HB.out)))); (case aL => have := LMc36.out; omega); intro v158 w44 ho hb hg hat; rw [← Ny157.out] at ho; have n0_ := Aside0.mk (blk_grown (g := gb138) (o := .cells #[.int .i64 a1_0, .int .i64 a1_1, .int .i64 a1_2] 27 (0, 0)) (by (with_reducible repeat (first | apply bn | apply bd | apply ba)); refine blk_far ?_ NB138_156.out _; (with_reducible repeat (first | apply bn | apply bd | apply ba)); refine blk_far ?_ NB138_156.out _; (with_reducible repeat (first | apply bn | apply bd | apply ba)); refine blk_far ?_ NB138_156.out _; (with_reducible repeat (first | apply bn | apply bd | apply ba)); exact BK138.out) hg (Kd.R_away HO_9.out (fun _ hk => hk.1.1))); have n1_ := Aside0.mk (blk_grown (g := gb139) (o := .cells #[.int .i64 a2_0, .int .i64 a2_1, .int .i64 a2_2] 27 (0, 0)) (by (with_reducible repeat (first | apply bn | apply bd | apply ba)); refine blk_far ?_ NB139_156.out _; (with_reducible repeat (first | apply bn | apply bd | apply ba)); refine blk_far ?_ NB139_156.out _; (with_reducible repeat (first | apply bn | apply bd | apply ba)); refine blk_far ?_ NB139_156.out _; (with_reducible repeat (first | apply bn | apply bd | apply ba)); exact BK139.out) hg (Kd.R_away HO_9.out (fun _ hk => hk.1.2))); have n2_ := Aside0.mk (blk_grown (g := gb156) (o := .cells #[.int .i64 t152, .int .i64 t153, .int .i64 t154] 27 (0, 0)) (by (with_reducible repeat (first | apply bn | apply bd | apply ba)); refine blk_put (cs := #[.int .i64 t152, .int .i64 t153, .int .i64 0]) ?_ 2 _ rfl; (with_reducible repeat (first | apply bn | apply bd | apply ba)); refine blk_put (cs := #[.int .i64 t152, .int .i64 0, .int .i64 0]) ?_ 1 _ rfl; (with_reducible repeat (first | apply bn | apply bd | apply ba)); refine blk_put (cs := #[.int .i64 0, .int .i64 0, .int .i64 0]) ?_ 0 _ rfl; (with_reducible repeat (first | apply bn | apply bd | apply ba)); exact BK156.out) hg (Kd.R_away HO_9.out (fun _ hk => hk.2))); have n3_ := Aside0.mk (hb); have n4_ := Aside0.mk (ho); clear BK138; clear BK139; clear BK156; clear HB; clear HO_9; have BK138 := n0_; have BK139 := n1_; have BK156 := n2_; have HB := n3_; have HO159 := n4_; clear n0_ n1_ n2_ n3_ n4_; clear ho hb hg hat))
         go_roundg k2
         case measure => have := HK1.out; have := HK2.out; omega
         case rel => exact ⟨(y157), (wrap64 (x13_2 + 1)), (by first | rfl | (simp; done) | (simp [*]; done)), H', ⟨by have := HK1.out; have := HK2.out; omega⟩, ⟨by (with_reducible repeat (first | apply Kd.R_alloc | apply Kd.R_drewN | apply Kd.R_drew)); exact Kd.R_mono HO159.out (fun _ hk => ⟨hk.1, hk.2.1⟩)⟩, ⟨be BK138⟩, ⟨be BK139⟩, ⟨by repeat (first | (with_reducible first | exact HB.out | apply below_alloc | apply pw_below_drewN | apply below_drew1 | refine below_set ?_ GE138.out | refine below_set ?_ GE139.out | refine below_set ?_ GE156.out) | exact HB.out)⟩⟩
        ·rw [if_neg c36] at H
         exact absurd H (by simp)
       ·replace c35 := Bool.eq_false_iff.mpr c35
        subst c35
        have H1 : (some (([] : List (S27)), false)) = some (r1, r2) := by rw [if_neg (show ¬ (false = true) by decide)] at H; exact H
        clear H
        have H := H1
        clear H1
        simp only [Option.some.injEq, Prod.mk.injEq] at H
        obtain ⟨rfl, rfl⟩ := H
        have hnb45 := NB139_138.out
        have hnc45 := NB138_139.out
        have hcz46_0 : wr.cell? ⟨gb139, 0, none⟩ = some (.int .i64 a2_0) := (blk_cell BK139.out 0).trans rfl
        have hcz46_1 : wr.cell? ⟨gb139, 1, none⟩ = some (.int .i64 a2_1) := (blk_cell BK139.out 1).trans rfl
        have hcz46_2 : wr.cell? ⟨gb139, 2, none⟩ = some (.int .i64 a2_2) := (blk_cell BK139.out 2).trans rfl
        have hfz46_0 := blk_frozen BK139.out 0
        have hfz46_1 := blk_frozen BK139.out 1
        have hfz46_2 := blk_frozen BK139.out 2
        go_wp2_with (first | ((with_reducible refine gate_callee (f := 113) rfl ?_); refine g1 (some 53) Try.func113 #[.int .i64 a0, .agg #[.int .i64 a2_0, .int .i64 a2_1, .int .i64 a2_2], .int .i64 x13_2] ?_; (with_reducible refine (spec_l02Up.calls k2 a0 a2_0 a2_1 a2_2 x13_2 t152 t153 t154 false _ A34.out).mono ?_); rintro e w47 ⟨rfl, hb⟩; refine ⟨_, rfl, ?_⟩; replace HO_9 := Aside0.mk (Kd.R_below (by (with_reducible repeat (first | apply Kd.R_alloc | apply Kd.R_drewN | apply Kd.R_drew)); exact HO_9.out) hb); replace BK138 := bb BK138 hb; replace BK139 := bb BK139 hb; replace HB := bs hb; (try clear hb); (try clear hb2); (try clear hk); (try clear hi)) | ((with_reducible refine gate_dst (N := 14) rfl ?_); refine bx (N := 14) (cs := #[.int .i64 0, .int .i64 0, .int .i64 0]) (t := 27) ?_; intro gb156 hg w48 hbox hb; have BK156 := Aside0.mk (hbox); have GW156 := sg hg; have GE156 := sg hg; have NB138_156 := nl hg BK138; have NB156_138 := ng hg BK138; have NB139_156 := nl hg BK139; have NB156_139 := ng hg BK139; replace HO_9 := Aside0.mk (Kd.R_below (Kd.R_elderB (by (with_reducible repeat (first | apply Kd.R_alloc | apply Kd.R_drewN | apply Kd.R_drew)); exact HO_9.out) gb156 (Nat.le_of_eq hg.symm)) hb); replace BK138 := bb BK138 hb; replace BK139 := bb BK139 hb; replace HB := bs hb; clear hb hbox hg; have hnb49 := NB156_138.out; have hnc49 := NB138_156.out; have hnb50 := NB156_139.out; have hnc50 := NB139_156.out; obtain ⟨hcz51_0, hcz51_1, hcz51_2, hfz51_0, hfz51_1, hfz51_2⟩ := c3 BK156))
        go_ret2
        exact ⟨_, by first | rfl | (simp [errW_none, errW_some] <;> rfl) | (simp [*, errW_none, errW_some] <;> rfl), by first | exact Kd.R_nil _ _ _ _ _ | exact Kd.N_nil _ _ _ _ _ | exact Kd.V_nil _ _ _ _ _ | exact Kd.Q_nil _ _ _ _ _ | exact Kd.S_nil _ _ _ _ _, by repeat (first | (with_reducible first | exact HB.out | apply below_alloc | apply pw_below_drewN | apply below_drew1 | refine below_set ?_ GE138.out | refine below_set ?_ GE139.out | refine below_set ?_ GE156.out) | exact HB.out)⟩
      ·rw [if_neg c33] at H
       have c33b0 : decide (x13_2 ≤ a2_0) = false := decide_eq_false c33
       clear c33
       simp only [Option.some.injEq, Prod.mk.injEq] at H
       obtain ⟨rfl, rfl⟩ := H
       have hnb52 := NB139_138.out
       have hnc52 := NB138_139.out
       have hcz53_0 : wr.cell? ⟨gb139, 0, none⟩ = some (.int .i64 a2_0) := (blk_cell BK139.out 0).trans rfl
       have hcz53_1 : wr.cell? ⟨gb139, 1, none⟩ = some (.int .i64 a2_1) := (blk_cell BK139.out 1).trans rfl
       have hcz53_2 : wr.cell? ⟨gb139, 2, none⟩ = some (.int .i64 a2_2) := (blk_cell BK139.out 2).trans rfl
       have hfz53_0 := blk_frozen BK139.out 0
       have hfz53_1 := blk_frozen BK139.out 1
       have hfz53_2 := blk_frozen BK139.out 2
       go_wp2
       go_ret2
       exact ⟨_, by first | rfl | (simp [errW_none, errW_some] <;> rfl) | (simp [*, errW_none, errW_some] <;> rfl), by (with_reducible repeat (first | apply Kd.R_alloc | apply Kd.R_drewN | apply Kd.R_drew)); exact Kd.R_mono HO_9.out (fun _ hk => trivial), by repeat (first | (with_reducible first | exact HB.out | apply below_alloc | apply pw_below_drewN | apply below_drew1 | refine below_set ?_ GE138.out | refine below_set ?_ GE139.out) | exact HB.out)⟩

end Go.Proofs.Ytpmepopagapeiaa.PFnTreeDistances

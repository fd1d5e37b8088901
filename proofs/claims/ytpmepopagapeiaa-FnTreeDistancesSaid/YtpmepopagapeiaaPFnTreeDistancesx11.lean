-- Printed by the kit's print and repaired by a program of this session.
import Derived.Test.YtpmepopagapeiaaPFnTreeDistancesx0
import Derived.Test.YtpmepopagapeiaaPFnTreeDistancesx2
import Derived.Test.YtpmepopagapeiaaPFnTreeDistancesx3
import Derived.Test.YtpmepopagapeiaaPFnTreeDistancesx4
import Derived.Test.YtpmepopagapeiaaPFnTreeDistancesx5
import Derived.Test.YtpmepopagapeiaaPFnTreeDistancesx7
import Derived.Test.YtpmepopagapeiaaPFnTreeDistancesx10
namespace Go.Proofs.Ytpmepopagapeiaa.PFnTreeDistances
open Go.RowKit Go.Proofs.YtpmepopagapeiaaW.PrintWords Go.Proofs.YtpmepopagapeiaaW.PrintLast Go.Proofs.YtpmepopagapeiaaW.PrintMore
attribute [local go_sem] max2_int min2_int max_two min_two max_three min_three max_four min_four   -- for this text's walks alone
set_option linter.unusedVariables false
set_option linter.unusedSimpArgs false

/-! ### spec_DrawContains: function 111 -/
def spec_DrawContains.f (k : Nat) (l0 : List Int) : Option (Int × Int × Int × Int × Int × Int × Int) := (spec_l01From.f k l0).bind fun bt447 => ((spec_l02Two.f k bt447.1 bt447.2.1 bt447.2.2).bind fun bt451 => (some (bt451.1, bt451.2.1, bt451.2.2.1, bt451.2.2.2.1, bt451.2.2.2.2.1, bt451.2.2.2.2.2.1, bt451.2.2.2.2.2.2.1)))
theorem spec_DrawContains.mono : ∀ a0 k, LeO (spec_DrawContains.f k a0) (spec_DrawContains.f (k + 1) a0) := by
 intro a0 k
 unfold spec_DrawContains.f
 repeat' first
   | (with_reducible exact spec_l01From.mono _ _)
   | (with_reducible exact spec_l02Two.mono _ _ _ _)
   | (with_reducible exact LeO.refl _)
   | (with_reducible exact LeO.none _)
   | (with_reducible refine LeO.ite ?_ ?_)
   | (with_reducible refine LeO.bind ?_ (fun _ => ?_))
   | refine LeO.ite ?_ ?_
   | refine LeO.bind ?_ (fun _ => ?_)
set_option maxHeartbeats 8000000 in
set_option maxRecDepth 100000 in
theorem spec_DrawContains.calls (k : Nat) (A0 : Option Addr) (c0 : Nat) (l0 : List Int) (r1 : Int) (r2 : Int) (r3 : Int) (r4 : Int) (r5 : Int) (r6 : Int) (r7 : Int) (w : World) (hr0 : Kd.C (Kd.int .u8) w A0 l0.length l0) (hc0 : l0.length ≤ c0) (h : spec_DrawContains.f k l0 = some (r1, r2, r3, r4, r5, r6, r7)) :
  Calls Try.prog 111 #[.slice A0 l0.length c0] w fun e w' => e = .returned (.tuple #[.int .i64 r1, .agg #[.int .i64 r2, .int .i64 r3, .int .i64 r4], .agg #[.int .i64 r5, .int .i64 r6, .int .i64 r7]]) ∧ Below w.heap.size w w' := by
 have hu27 := Try.underlying27
 have HR0 := Aside0.mk hr0
 have HC0 := Aside0.mk hc0
 clear hr0 hc0
 have HB := Aside0.mk (Below.refl w.heap.size w)
 have H : ((spec_l01From.f k l0).bind fun bt447 => ((spec_l02Two.f k bt447.1 bt447.2.1 bt447.2.2).bind fun bt451 => (some (bt451.1, bt451.2.1, bt451.2.2.1, bt451.2.2.2.1, bt451.2.2.2.2.1, bt451.2.2.2.2.2.1, bt451.2.2.2.2.2.2.1)))) = some (r1, r2, r3, r4, r5, r6, r7) := h
 clear h
 replace H := Option.bind_eq_some_iff.mp H
 obtain ⟨⟨t447, t448, t449⟩, A20, H⟩ := H
 replace H : ((spec_l02Two.f k t447 t448 t449).bind fun bt451 => (some (bt451.1, bt451.2.1, bt451.2.2.1, bt451.2.2.2.1, bt451.2.2.2.2.1, bt451.2.2.2.2.2.1, bt451.2.2.2.2.2.2.1))) = some (r1, r2, r3, r4, r5, r6, r7) := H
 have A2 := Aside0.mk A20
 clear A20
 replace H := Option.bind_eq_some_iff.mp H
 obtain ⟨⟨t451, t452, t453, t454, t455, t456, t457, t458, t459⟩, A30, H⟩ := H
 replace H : (some (t451, t452, t453, t454, t455, t456, t457)) = some (r1, r2, r3, r4, r5, r6, r7) := H
 have A3 := Aside0.mk A30
 clear A30
 simp only [Option.some.injEq, Prod.mk.injEq] at H
 obtain ⟨rfl, rfl, rfl, rfl, rfl, rfl, rfl⟩ := H
 go_enter Try.func111, Try.ntmps111
 try go_wp2_with (first | ((with_reducible refine gate_dst (N := 3) rfl ?_); refine bx (N := 3) (cs := #[.int .i64 0, .int .i64 0, .int .i64 0]) (t := 27) ?_; intro gb445 hg w4 hbox hb; have BK445 := Aside0.mk (hbox); have GW445 := sg hg; have GE445 := sg hg; replace HB := bs hb; clear hb hbox hg) | ((with_reducible refine gate_dst (N := 4) rfl ?_); refine bx (N := 4) (cs := #[.int .i64 0, .int .i64 0, .int .i64 0]) (t := 27) ?_; intro gb446 hg w5 hbox hb; have BK446 := Aside0.mk (hbox); have GW446 := sg hg; have GE446 := sg hg; have NB445_446 := nl hg BK445; have NB446_445 := ng hg BK445; replace BK445 := bb BK445 hb; replace HB := bs hb; clear hb hbox hg) | ((with_reducible refine gate_callee (f := 98) rfl ?_); refine g1 (some 10) Try.func98 #[.slice A0 l0.length c0] ?_; (with_reducible refine (spec_l01From.calls k _ _ l0 t447 t448 t449 w _ ?side1 ?side2 ?side3 A2.out).mono ?_); (case side1 => repeat (first | (with_reducible first | exact HB.out | apply below_alloc | apply pw_below_drewN | apply below_drew1 | refine below_set ?_ GE445.out | refine below_set ?_ GE446.out) | exact HB.out)); (case side2 => exact HR0.out); (case side3 => exact HC0.out); rintro e w6 ⟨g450, rfl, hi, hb, hb2⟩; refine ⟨_, rfl, ?_⟩; have HI450 := Aside0.mk (hi); have NB450_445 := Aside0.mk (IsS127.ne_blk hi (blk_below (g := gb445) (o := .cells #[.int .i64 0, .int .i64 0, .int .i64 0] 27 (0, 0)) (be BK445) hb2) (by decide)); have NB445_450 := Aside0.mk (Ne.symm (IsS127.ne_blk hi (blk_below (g := gb445) (o := .cells #[.int .i64 0, .int .i64 0, .int .i64 0] 27 (0, 0)) (be BK445) hb2) (by decide))); have NB450_446 := Aside0.mk (IsS127.ne_blk hi (blk_below (g := gb446) (o := .cells #[.int .i64 0, .int .i64 0, .int .i64 0] 27 (0, 0)) (be BK446) hb2) (by decide)); have NB446_450 := Aside0.mk (Ne.symm (IsS127.ne_blk hi (blk_below (g := gb446) (o := .cells #[.int .i64 0, .int .i64 0, .int .i64 0] 27 (0, 0)) (be BK446) hb2) (by decide))); replace BK445 := Aside0.mk (blk_below (g := gb445) (o := .cells #[.int .i64 0, .int .i64 0, .int .i64 0] 27 (0, 0)) (be BK445) hb2); replace BK446 := Aside0.mk (blk_below (g := gb446) (o := .cells #[.int .i64 0, .int .i64 0, .int .i64 0] 27 (0, 0)) (be BK446) hb2); replace HB := Aside0.mk (hb); (try clear hb); (try clear hb2); (try clear hk); (try clear hi)) | ((with_reducible refine gate_callee (f := 115) rfl ?_); refine g1 (some 11) Try.func115 #[.pointer (some ⟨g450, 0, none⟩)] ?_; (with_reducible refine (spec_l02Two.calls k g450 t447 t448 t449 t451 t452 t453 t454 t455 t456 t457 t458 t459 w _ ?side1 ?side2 A3.out).mono ?_); (case side1 => repeat (first | (with_reducible first | exact HI450.out | apply IsS127.alloc | apply IsS127.drewN | apply IsS127.drew | apply IsS127.set_1 | apply IsS127.set_2 | refine IsS127.far ?_ NB450_445.out _ | refine IsS127.far ?_ NB450_446.out _) | exact HI450.out)); (case side2 => repeat (first | (with_reducible first | exact HB.out | apply below_alloc | apply pw_below_drewN | apply below_drew1 | refine below_set ?_ (IsS127.ge HI450.out) | refine below_set ?_ GE445.out | refine below_set ?_ GE446.out) | exact HB.out)); rintro e w7 ⟨rfl, hi, hb, hk⟩; refine ⟨_, rfl, ?_⟩; replace BK445 := Aside0.mk (KeepBut.blk hk (g' := gb445) (o := .cells #[.int .i64 0, .int .i64 0, .int .i64 0] 27 (0, 0)) (be BK445) NB445_450.out (by simp)); replace BK446 := Aside0.mk (KeepBut.blk hk (g' := gb446) (o := .cells #[.int .i64 0, .int .i64 0, .int .i64 0] 27 (0, 0)) (be BK446) NB446_450.out (by simp)); replace HI450 := Aside0.mk (hi); replace HB := Aside0.mk (hb); (try clear hb); (try clear hb2); (try clear hk); (try clear hi)) | ((with_reducible refine gate_dst (N := 6) rfl ?_); refine bx (N := 6) (cs := #[.int .i64 0, .int .i64 0, .int .i64 0]) (t := 27) ?_; intro gb460 hg w8 hbox hb; have BK460 := Aside0.mk (hbox); have GW460 := Aside0.mk ((by rw [hg]; exact (below_size (by repeat (first | (with_reducible first | exact HB.out | apply below_alloc | apply pw_below_drewN | apply below_drew1 | refine below_set ?_ (IsS127.ge HI450.out) | refine below_set ?_ GE445.out | refine below_set ?_ GE446.out) | exact HB.out))) : w.heap.size ≤ gb460)); have GE460 := Aside0.mk ((by rw [hg]; exact (below_size (by repeat (first | (with_reducible first | exact HB.out | apply below_alloc | apply pw_below_drewN | apply below_drew1 | refine below_set ?_ (IsS127.ge HI450.out) | refine below_set ?_ GE445.out | refine below_set ?_ GE446.out) | exact HB.out))) : w.heap.size ≤ gb460)); have NB445_460 := nl hg BK445; have NB460_445 := ng hg BK445; have NB446_460 := nl hg BK446; have NB460_446 := ng hg BK446; have NB450_460 := Aside0.mk ((by rw [hg]; exact Nat.ne_of_lt (IsS127.lt (show IsS127 w _ g450 t447 t458 t459 from by repeat (first | (with_reducible first | exact HI450.out | apply IsS127.alloc | apply IsS127.drewN | apply IsS127.drew | apply IsS127.set_1 | apply IsS127.set_2 | refine IsS127.far ?_ NB450_445.out _ | refine IsS127.far ?_ NB450_446.out _) | exact HI450.out))) : g450 ≠ gb460)); have NB460_450 := Aside0.mk ((by rw [hg]; exact Nat.ne_of_gt (IsS127.lt (show IsS127 w _ g450 t447 t458 t459 from by repeat (first | (with_reducible first | exact HI450.out | apply IsS127.alloc | apply IsS127.drewN | apply IsS127.drew | apply IsS127.set_1 | apply IsS127.set_2 | refine IsS127.far ?_ NB450_445.out _ | refine IsS127.far ?_ NB450_446.out _) | exact HI450.out))) : gb460 ≠ g450)); replace BK445 := bb BK445 hb; replace BK446 := bb BK446 hb; replace HB := Aside0.mk (below_step (by repeat (first | (with_reducible first | exact HB.out | apply below_alloc | apply pw_below_drewN | apply below_drew1 | refine below_set ?_ (IsS127.ge HI450.out) | refine below_set ?_ GE445.out | refine below_set ?_ GE446.out) | exact HB.out)) hb); replace HI450 := Aside0.mk (IsS127.below (by repeat (first | (with_reducible first | exact HI450.out | apply IsS127.alloc | apply IsS127.drewN | apply IsS127.drew | apply IsS127.set_1 | apply IsS127.set_2 | refine IsS127.far ?_ NB450_445.out _ | refine IsS127.far ?_ NB450_446.out _) | exact HI450.out)) hb); clear hb hbox hg) | ((with_reducible refine gate_dst (N := 7) rfl ?_); refine bx (N := 7) (cs := #[.int .i64 0, .int .i64 0, .int .i64 0]) (t := 27) ?_; intro gb461 hg w9 hbox hb; have BK461 := Aside0.mk (hbox); have GW461 := Aside0.mk ((by rw [hg]; exact (below_size (by repeat (first | (with_reducible first | exact HB.out | apply below_alloc | apply pw_below_drewN | apply below_drew1 | refine below_set ?_ (IsS127.ge HI450.out) | refine below_set ?_ GE445.out | refine below_set ?_ GE446.out | refine below_set ?_ GE460.out) | exact HB.out))) : w.heap.size ≤ gb461)); have GE461 := Aside0.mk ((by rw [hg]; exact (below_size (by repeat (first | (with_reducible first | exact HB.out | apply below_alloc | apply pw_below_drewN | apply below_drew1 | refine below_set ?_ (IsS127.ge HI450.out) | refine below_set ?_ GE445.out | refine below_set ?_ GE446.out | refine below_set ?_ GE460.out) | exact HB.out))) : w.heap.size ≤ gb461)); have NB445_461 := nl hg BK445; have NB461_445 := ng hg BK445; have NB446_461 := nl hg BK446; have NB461_446 := ng hg BK446; have NB460_461 := nl hg BK460; have NB461_460 := ng hg BK460; have NB450_461 := Aside0.mk ((by rw [hg]; exact Nat.ne_of_lt (IsS127.lt (show IsS127 w _ g450 t447 t458 t459 from by repeat (first | (with_reducible first | exact HI450.out | apply IsS127.alloc | apply IsS127.drewN | apply IsS127.drew | apply IsS127.set_1 | apply IsS127.set_2 | refine IsS127.far ?_ NB450_445.out _ | refine IsS127.far ?_ NB450_446.out _ | refine IsS127.far ?_ NB450_460.out _) | exact HI450.out))) : g450 ≠ gb461)); have NB461_450 := Aside0.mk ((by rw [hg]; exact Nat.ne_of_gt (IsS127.lt (show IsS127 w _ g450 t447 t458 t459 from by repeat (first | (with_reducible first | exact HI450.out | apply IsS127.alloc | apply IsS127.drewN | apply IsS127.drew | apply IsS127.set_1 | apply IsS127.set_2 | refine IsS127.far ?_ NB450_445.out _ | refine IsS127.far ?_ NB450_446.out _ | refine IsS127.far ?_ NB450_460.out _) | exact HI450.out))) : gb461 ≠ g450)); replace BK445 := bb BK445 hb; replace BK446 := bb BK446 hb; replace BK460 := bb BK460 hb; replace HB := Aside0.mk (below_step (by repeat (first | (with_reducible first | exact HB.out | apply below_alloc | apply pw_below_drewN | apply below_drew1 | refine below_set ?_ (IsS127.ge HI450.out) | refine below_set ?_ GE445.out | refine below_set ?_ GE446.out | refine below_set ?_ GE460.out) | exact HB.out)) hb); replace HI450 := Aside0.mk (IsS127.below (by repeat (first | (with_reducible first | exact HI450.out | apply IsS127.alloc | apply IsS127.drewN | apply IsS127.drew | apply IsS127.set_1 | apply IsS127.set_2 | refine IsS127.far ?_ NB450_445.out _ | refine IsS127.far ?_ NB450_446.out _ | refine IsS127.far ?_ NB450_460.out _) | exact HI450.out)) hb); clear hb hbox hg; have hnb10 := NB460_445.out; have hnc10 := NB445_460.out; have hnb11 := NB460_446.out; have hnc11 := NB446_460.out; have hnb12 := NB460_461.out; have hnc12 := NB461_460.out; have hnb13 := NB460_450.out; have hnc13 := NB450_460.out; obtain ⟨hcz14_0, hcz14_1, hcz14_2, hfz14_0, hfz14_1, hfz14_2⟩ := c3 BK460; have hnb15 := NB461_445.out; have hnc15 := NB445_461.out; have hnb16 := NB461_446.out; have hnc16 := NB446_461.out; have hnb17 := NB461_450.out; have hnc17 := NB450_461.out; obtain ⟨hcz18_0, hcz18_1, hcz18_2, hfz18_0, hfz18_1, hfz18_2⟩ := c3 BK461))
 have n0_ : Aside0 (((((((w9.setCell ⟨gb460, 0, none⟩ (.int .i64 t452)).setCell ⟨gb460, 1, none⟩ (.int .i64 t453)).setCell ⟨gb460, 2, none⟩ (.int .i64 t454)).setCell ⟨gb461, 0, none⟩ (.int .i64 t455)).setCell ⟨gb461, 1, none⟩ (.int .i64 t456)).setCell ⟨gb461, 2, none⟩ (.int .i64 t457)).heap[gb445]? = some (.cells #[.int .i64 0, .int .i64 0, .int .i64 0] 27 (0, 0))) := ⟨by (with_reducible repeat (first | apply bn | apply bd | apply ba)); refine blk_far ?_ NB445_461.out _; (with_reducible repeat (first | apply bn | apply bd | apply ba)); refine blk_far ?_ NB445_461.out _; (with_reducible repeat (first | apply bn | apply bd | apply ba)); refine blk_far ?_ NB445_461.out _; (with_reducible repeat (first | apply bn | apply bd | apply ba)); refine blk_far ?_ NB445_460.out _; (with_reducible repeat (first | apply bn | apply bd | apply ba)); refine blk_far ?_ NB445_460.out _; (with_reducible repeat (first | apply bn | apply bd | apply ba)); refine blk_far ?_ NB445_460.out _; (with_reducible repeat (first | apply bn | apply bd | apply ba)); exact BK445.out⟩
 have n1_ : Aside0 (((((((w9.setCell ⟨gb460, 0, none⟩ (.int .i64 t452)).setCell ⟨gb460, 1, none⟩ (.int .i64 t453)).setCell ⟨gb460, 2, none⟩ (.int .i64 t454)).setCell ⟨gb461, 0, none⟩ (.int .i64 t455)).setCell ⟨gb461, 1, none⟩ (.int .i64 t456)).setCell ⟨gb461, 2, none⟩ (.int .i64 t457)).heap[gb446]? = some (.cells #[.int .i64 0, .int .i64 0, .int .i64 0] 27 (0, 0))) := ⟨by (with_reducible repeat (first | apply bn | apply bd | apply ba)); refine blk_far ?_ NB446_461.out _; (with_reducible repeat (first | apply bn | apply bd | apply ba)); refine blk_far ?_ NB446_461.out _; (with_reducible repeat (first | apply bn | apply bd | apply ba)); refine blk_far ?_ NB446_461.out _; (with_reducible repeat (first | apply bn | apply bd | apply ba)); refine blk_far ?_ NB446_460.out _; (with_reducible repeat (first | apply bn | apply bd | apply ba)); refine blk_far ?_ NB446_460.out _; (with_reducible repeat (first | apply bn | apply bd | apply ba)); refine blk_far ?_ NB446_460.out _; (with_reducible repeat (first | apply bn | apply bd | apply ba)); exact BK446.out⟩
 have n2_ : Aside0 (((((((w9.setCell ⟨gb460, 0, none⟩ (.int .i64 t452)).setCell ⟨gb460, 1, none⟩ (.int .i64 t453)).setCell ⟨gb460, 2, none⟩ (.int .i64 t454)).setCell ⟨gb461, 0, none⟩ (.int .i64 t455)).setCell ⟨gb461, 1, none⟩ (.int .i64 t456)).setCell ⟨gb461, 2, none⟩ (.int .i64 t457)).heap[gb460]? = some (.cells #[.int .i64 t452, .int .i64 t453, .int .i64 t454] 27 (0, 0))) := ⟨by (with_reducible repeat (first | apply bn | apply bd | apply ba)); refine blk_far ?_ NB460_461.out _; (with_reducible repeat (first | apply bn | apply bd | apply ba)); refine blk_far ?_ NB460_461.out _; (with_reducible repeat (first | apply bn | apply bd | apply ba)); refine blk_far ?_ NB460_461.out _; (with_reducible repeat (first | apply bn | apply bd | apply ba)); refine blk_put (cs := #[.int .i64 t452, .int .i64 t453, .int .i64 0]) ?_ 2 _ rfl; (with_reducible repeat (first | apply bn | apply bd | apply ba)); refine blk_put (cs := #[.int .i64 t452, .int .i64 0, .int .i64 0]) ?_ 1 _ rfl; (with_reducible repeat (first | apply bn | apply bd | apply ba)); refine blk_put (cs := #[.int .i64 0, .int .i64 0, .int .i64 0]) ?_ 0 _ rfl; (with_reducible repeat (first | apply bn | apply bd | apply ba)); exact BK460.out⟩
 have n3_ : Aside0 (((((((w9.setCell ⟨gb460, 0, none⟩ (.int .i64 t452)).setCell ⟨gb460, 1, none⟩ (.int .i64 t453)).setCell ⟨gb460, 2, none⟩ (.int .i64 t454)).setCell ⟨gb461, 0, none⟩ (.int .i64 t455)).setCell ⟨gb461, 1, none⟩ (.int .i64 t456)).setCell ⟨gb461, 2, none⟩ (.int .i64 t457)).heap[gb461]? = some (.cells #[.int .i64 t455, .int .i64 t456, .int .i64 t457] 27 (0, 0))) := ⟨by (with_reducible repeat (first | apply bn | apply bd | apply ba)); refine blk_put (cs := #[.int .i64 t455, .int .i64 t456, .int .i64 0]) ?_ 2 _ rfl; (with_reducible repeat (first | apply bn | apply bd | apply ba)); refine blk_put (cs := #[.int .i64 t455, .int .i64 0, .int .i64 0]) ?_ 1 _ rfl; (with_reducible repeat (first | apply bn | apply bd | apply ba)); refine blk_put (cs := #[.int .i64 0, .int .i64 0, .int .i64 0]) ?_ 0 _ rfl; (with_reducible repeat (first | apply bn | apply bd | apply ba)); refine blk_far ?_ NB461_460.out _; (with_reducible repeat (first | apply bn | apply bd | apply ba)); refine blk_far ?_ NB461_460.out _; (with_reducible repeat (first | apply bn | apply bd | apply ba)); refine blk_far ?_ NB461_460.out _; (with_reducible repeat (first | apply bn | apply bd | apply ba)); exact BK461.out⟩
 have n4_ : Aside0 (IsS127 w ((((((w9.setCell ⟨gb460, 0, none⟩ (.int .i64 t452)).setCell ⟨gb460, 1, none⟩ (.int .i64 t453)).setCell ⟨gb460, 2, none⟩ (.int .i64 t454)).setCell ⟨gb461, 0, none⟩ (.int .i64 t455)).setCell ⟨gb461, 1, none⟩ (.int .i64 t456)).setCell ⟨gb461, 2, none⟩ (.int .i64 t457)) g450 t447 t458 t459) := ⟨by repeat (first | (with_reducible first | exact HI450.out | apply IsS127.alloc | apply IsS127.drewN | apply IsS127.drew | apply IsS127.set_1 | apply IsS127.set_2 | refine IsS127.far ?_ NB450_445.out _ | refine IsS127.far ?_ NB450_446.out _ | refine IsS127.far ?_ NB450_460.out _ | refine IsS127.far ?_ NB450_461.out _) | exact HI450.out)⟩
 have n5_ : Aside0 (Below w.heap.size w ((((((w9.setCell ⟨gb460, 0, none⟩ (.int .i64 t452)).setCell ⟨gb460, 1, none⟩ (.int .i64 t453)).setCell ⟨gb460, 2, none⟩ (.int .i64 t454)).setCell ⟨gb461, 0, none⟩ (.int .i64 t455)).setCell ⟨gb461, 1, none⟩ (.int .i64 t456)).setCell ⟨gb461, 2, none⟩ (.int .i64 t457))) := ⟨by repeat (first | (with_reducible first | exact HB.out | apply below_alloc | apply pw_below_drewN | apply below_drew1 | refine below_set ?_ (IsS127.ge HI450.out) | refine below_set ?_ GE445.out | refine below_set ?_ GE446.out | refine below_set ?_ GE460.out | refine below_set ?_ GE461.out) | exact HB.out)⟩
 (try clear BK445)
 (try clear BK446)
 (try clear BK460)
 (try clear BK461)
 (try clear HI450)
 (try clear HB)
 generalize ((((((w9.setCell ⟨gb460, 0, none⟩ (.int .i64 t452)).setCell ⟨gb460, 1, none⟩ (.int .i64 t453)).setCell ⟨gb460, 2, none⟩ (.int .i64 t454)).setCell ⟨gb461, 0, none⟩ (.int .i64 t455)).setCell ⟨gb461, 1, none⟩ (.int .i64 t456)).setCell ⟨gb461, 2, none⟩ (.int .i64 t457)) = w19 at n0_ n1_ n2_ n3_ n4_ n5_ ⊢
 have BK445 := n0_
 have BK446 := n1_
 have BK460 := n2_
 have BK461 := n3_
 have HI450 := n4_
 have HB := n5_
 clear n0_ n1_ n2_ n3_ n4_ n5_
 have n0_ := Aside0.mk (blk_drew BK445.out)
 have n1_ := Aside0.mk (blk_drew BK446.out)
 have n2_ := Aside0.mk (blk_drew BK460.out)
 have n3_ := Aside0.mk (blk_drew BK461.out)
 have n4_ := Aside0.mk (IsS127.drew HI450.out)
 have n5_ := Aside0.mk (below_drew1 HB.out)
 clear BK445
 clear BK446
 clear BK460
 clear BK461
 clear HI450
 clear HB
 have BK445 := n0_
 have BK446 := n1_
 have BK460 := n2_
 have BK461 := n3_
 have HI450 := n4_
 have HB := n5_
 clear n0_ n1_ n2_ n3_ n4_ n5_
 refine start_ (n := 6) (S := fun w' => w'.cell? ⟨gb460, 0, none⟩ = some (.int .i64 t452) ∧ w'.cell? ⟨gb460, 1, none⟩ = some (.int .i64 t453) ∧ w'.cell? ⟨gb460, 2, none⟩ = some (.int .i64 t454) ∧ w'.cell? ⟨gb461, 0, none⟩ = some (.int .i64 t455) ∧ w'.cell? ⟨gb461, 1, none⟩ = some (.int .i64 t456) ∧ w'.cell? ⟨gb461, 2, none⟩ = some (.int .i64 t457)) (ds := []) #[false, false, false, false, false, false] (by kernel_rfl) rfl rfl ⟨(blk_cell BK460.out 0).trans rfl, (blk_cell BK460.out 1).trans rfl, (blk_cell BK460.out 2).trans rfl, (blk_cell BK461.out 0).trans rfl, (blk_cell BK461.out 1).trans rfl, (blk_cell BK461.out 2).trans rfl⟩ (fun hHeld => ?_)
 generalize w19.drew = w20 at BK445 BK446 BK460 BK461 HI450 HB hHeld ⊢
 refine pure_ (i := 0) (N := some 15) (v := ?_) (a' := ?_) #[true, false, false, false, false, false] rfl rfl (by kernel_rfl) (fun _ _ _ h => h) (Or.inl ⟨by rfl, ?_⟩) ?_ ?_
 rotate_left
 ·intro w'
  go_simp
  with_reducible rfl
 rotate_left
 ·simp only [Act.put, List.setIfInBounds_toArray, List.set_cons_zero, List.set_cons_succ, i64_w, i32_w]
  rfl
 refine pure_ (i := 3) (N := some 2) (v := ?_) (a' := ?_) #[true, false, false, true, false, false] rfl rfl (by kernel_rfl) (fun _ _ _ h => h) (Or.inl ⟨by rfl, ?_⟩) ?_ ?_
 rotate_left
 ·intro w'
  go_simp
  with_reducible rfl
 rotate_left
 ·simp only [Act.put, List.setIfInBounds_toArray, List.set_cons_zero, List.set_cons_succ, i64_w, i32_w]
  rfl
 refine take_ (i := 1) (N := some 16) (v := ?_) (a' := ?_) #[true, true, false, true, false, false] rfl rfl (by kernel_rfl) (fun _ _ _ h => h) (Or.inl ⟨by rfl, ?_⟩) hHeld ?_ ?_
 rotate_left
 ·rintro w' ⟨s0, s1, s2, s3, s4, s5⟩
  go_simp
  with_reducible rfl
 rotate_left
 ·simp only [Act.put, List.setIfInBounds_toArray, List.set_cons_zero, List.set_cons_succ, i64_w, i32_w]
  rfl
 refine take_ (i := 2) (N := some 17) (v := ?_) (a' := ?_) #[true, true, true, true, false, false] rfl rfl (by kernel_rfl) (fun _ _ _ h => h) (Or.inl ⟨by rfl, ?_⟩) hHeld ?_ ?_
 rotate_left
 ·rintro w' ⟨s0, s1, s2, s3, s4, s5⟩
  go_simp
  with_reducible rfl
 rotate_left
 ·simp only [Act.put, List.setIfInBounds_toArray, List.set_cons_zero, List.set_cons_succ, i64_w, i32_w]
  rfl
 refine one_ (i := 4) (N := none) #[true, true, true, true, true, false] rfl rfl (by kernel_rfl) (by decide) (fun K hK => ?_)
 have hs21 : w20.cell? ⟨gb445, 0, none⟩ = some (.int .i64 0) := (blk_cell BK445.out 0).trans rfl
 have hfs21 := blk_frozen BK445.out 0
 have hns21_1 := NB446_445.out
 have hns21_2 := NB460_445.out
 have hns21_3 := NB461_445.out
 have hms21_1 := NB445_446.out
 have hms21_2 := NB445_460.out
 have hms21_3 := NB445_461.out
 have hs22 : w20.cell? ⟨gb445, 1, none⟩ = some (.int .i64 0) := (blk_cell BK445.out 1).trans rfl
 have hfs22 := blk_frozen BK445.out 1
 have hns22_1 := NB446_445.out
 have hns22_2 := NB460_445.out
 have hns22_3 := NB461_445.out
 have hms22_1 := NB445_446.out
 have hms22_2 := NB445_460.out
 have hms22_3 := NB445_461.out
 have hs23 : w20.cell? ⟨gb445, 2, none⟩ = some (.int .i64 0) := (blk_cell BK445.out 2).trans rfl
 have hfs23 := blk_frozen BK445.out 2
 have hns23_1 := NB446_445.out
 have hns23_2 := NB460_445.out
 have hns23_3 := NB461_445.out
 have hms23_1 := NB445_446.out
 have hms23_2 := NB445_460.out
 have hms23_3 := NB445_461.out
 refine skip_ (w1 := ?_) (by rfl) rfl ?_ ?_
 rotate_left
 ·go_simp
  rfl
 refine hK.out _ _ ⟨((cell_far (p := ⟨gb445, _, none⟩) NB460_445.out _).trans (((cell_far (p := ⟨gb445, _, none⟩) NB460_445.out _).trans (((cell_far (p := ⟨gb445, _, none⟩) NB460_445.out _).trans (hHeld.1)))))), ((cell_far (p := ⟨gb445, _, none⟩) NB460_445.out _).trans (((cell_far (p := ⟨gb445, _, none⟩) NB460_445.out _).trans (((cell_far (p := ⟨gb445, _, none⟩) NB460_445.out _).trans (hHeld.2.1)))))), ((cell_far (p := ⟨gb445, _, none⟩) NB460_445.out _).trans (((cell_far (p := ⟨gb445, _, none⟩) NB460_445.out _).trans (((cell_far (p := ⟨gb445, _, none⟩) NB460_445.out _).trans (hHeld.2.2.1)))))), ((cell_far (p := ⟨gb445, _, none⟩) NB461_445.out _).trans (((cell_far (p := ⟨gb445, _, none⟩) NB461_445.out _).trans (((cell_far (p := ⟨gb445, _, none⟩) NB461_445.out _).trans (hHeld.2.2.2.1)))))), ((cell_far (p := ⟨gb445, _, none⟩) NB461_445.out _).trans (((cell_far (p := ⟨gb445, _, none⟩) NB461_445.out _).trans (((cell_far (p := ⟨gb445, _, none⟩) NB461_445.out _).trans (hHeld.2.2.2.2.1)))))), ((cell_far (p := ⟨gb445, _, none⟩) NB461_445.out _).trans (((cell_far (p := ⟨gb445, _, none⟩) NB461_445.out _).trans (((cell_far (p := ⟨gb445, _, none⟩) NB461_445.out _).trans (hHeld.2.2.2.2.2))))))⟩ (fun hHeld => ?_)
 clear hK K
 refine one_ (i := 5) (N := none) #[true, true, true, true, true, true] rfl rfl (by kernel_rfl) (by decide) (fun K hK => ?_)
 have hs24 : w20.cell? ⟨gb446, 0, none⟩ = some (.int .i64 0) := (blk_cell BK446.out 0).trans rfl
 have hfs24 := blk_frozen BK446.out 0
 have hns24_0 := NB445_446.out
 have hns24_2 := NB460_446.out
 have hns24_3 := NB461_446.out
 have hms24_0 := NB446_445.out
 have hms24_2 := NB446_460.out
 have hms24_3 := NB446_461.out
 have hs25 : w20.cell? ⟨gb446, 1, none⟩ = some (.int .i64 0) := (blk_cell BK446.out 1).trans rfl
 have hfs25 := blk_frozen BK446.out 1
 have hns25_0 := NB445_446.out
 have hns25_2 := NB460_446.out
 have hns25_3 := NB461_446.out
 have hms25_0 := NB446_445.out
 have hms25_2 := NB446_460.out
 have hms25_3 := NB446_461.out
 have hs26 : w20.cell? ⟨gb446, 2, none⟩ = some (.int .i64 0) := (blk_cell BK446.out 2).trans rfl
 have hfs26 := blk_frozen BK446.out 2
 have hns26_0 := NB445_446.out
 have hns26_2 := NB460_446.out
 have hns26_3 := NB461_446.out
 have hms26_0 := NB446_445.out
 have hms26_2 := NB446_460.out
 have hms26_3 := NB446_461.out
 refine skip_ (w1 := ?_) (by rfl) rfl ?_ ?_
 rotate_left
 ·go_simp
  rfl
 refine hK.out _ _ ⟨((cell_far (p := ⟨gb446, _, none⟩) NB460_446.out _).trans (((cell_far (p := ⟨gb446, _, none⟩) NB460_446.out _).trans (((cell_far (p := ⟨gb446, _, none⟩) NB460_446.out _).trans (hHeld.1)))))), ((cell_far (p := ⟨gb446, _, none⟩) NB460_446.out _).trans (((cell_far (p := ⟨gb446, _, none⟩) NB460_446.out _).trans (((cell_far (p := ⟨gb446, _, none⟩) NB460_446.out _).trans (hHeld.2.1)))))), ((cell_far (p := ⟨gb446, _, none⟩) NB460_446.out _).trans (((cell_far (p := ⟨gb446, _, none⟩) NB460_446.out _).trans (((cell_far (p := ⟨gb446, _, none⟩) NB460_446.out _).trans (hHeld.2.2.1)))))), ((cell_far (p := ⟨gb446, _, none⟩) NB461_446.out _).trans (((cell_far (p := ⟨gb446, _, none⟩) NB461_446.out _).trans (((cell_far (p := ⟨gb446, _, none⟩) NB461_446.out _).trans (hHeld.2.2.2.1)))))), ((cell_far (p := ⟨gb446, _, none⟩) NB461_446.out _).trans (((cell_far (p := ⟨gb446, _, none⟩) NB461_446.out _).trans (((cell_far (p := ⟨gb446, _, none⟩) NB461_446.out _).trans (hHeld.2.2.2.2.1)))))), ((cell_far (p := ⟨gb446, _, none⟩) NB461_446.out _).trans (((cell_far (p := ⟨gb446, _, none⟩) NB461_446.out _).trans (((cell_far (p := ⟨gb446, _, none⟩) NB461_446.out _).trans (hHeld.2.2.2.2.2))))))⟩ (fun hHeld => ?_)
 clear hK K
 refine done_ (by kernel_rfl) ?_
 try go_wp2
 refine bodyPost_ret (results_list (rs := [.tmp 2, .cell 3 27, .cell 4 27]) rfl (by simp) (.tmp (.cell gb445 27 #[.int .i64 t452, .int .i64 t453, .int .i64 t454] (0, 0) _ rfl (by (with_reducible repeat (first | apply bn | apply bd | apply ba)); refine blk_far ?_ NB445_446.out _; (with_reducible repeat (first | apply bn | apply bd | apply ba)); refine blk_far ?_ NB445_446.out _; (with_reducible repeat (first | apply bn | apply bd | apply ba)); refine blk_far ?_ NB445_446.out _; (with_reducible repeat (first | apply bn | apply bd | apply ba)); refine blk_put (cs := #[.int .i64 t452, .int .i64 t453, .int .i64 0]) ?_ 2 _ rfl; (with_reducible repeat (first | apply bn | apply bd | apply ba)); refine blk_put (cs := #[.int .i64 t452, .int .i64 0, .int .i64 0]) ?_ 1 _ rfl; (with_reducible repeat (first | apply bn | apply bd | apply ba)); refine blk_put (cs := #[.int .i64 0, .int .i64 0, .int .i64 0]) ?_ 0 _ rfl; (with_reducible repeat (first | apply bn | apply bd | apply ba)); exact BK445.out) Try.underlying27 rfl (by kernel_rfl) (.cell gb446 27 #[.int .i64 t455, .int .i64 t456, .int .i64 t457] (0, 0) _ rfl (by (with_reducible repeat (first | apply bn | apply bd | apply ba)); refine blk_put (cs := #[.int .i64 t455, .int .i64 t456, .int .i64 0]) ?_ 2 _ rfl; (with_reducible repeat (first | apply bn | apply bd | apply ba)); refine blk_put (cs := #[.int .i64 t455, .int .i64 0, .int .i64 0]) ?_ 1 _ rfl; (with_reducible repeat (first | apply bn | apply bd | apply ba)); refine blk_put (cs := #[.int .i64 0, .int .i64 0, .int .i64 0]) ?_ 0 _ rfl; (with_reducible repeat (first | apply bn | apply bd | apply ba)); refine blk_far ?_ NB446_445.out _; (with_reducible repeat (first | apply bn | apply bd | apply ba)); refine blk_far ?_ NB446_445.out _; (with_reducible repeat (first | apply bn | apply bd | apply ba)); refine blk_far ?_ NB446_445.out _; (with_reducible repeat (first | apply bn | apply bd | apply ba)); exact BK446.out) Try.underlying27 rfl (by kernel_rfl) .nil)))) rfl ?_
 exact ⟨by first | rfl | (simp [errW_none, errW_some] <;> rfl) | (simp [*, errW_none, errW_some] <;> rfl), by repeat (first | (with_reducible first | exact HB.out | apply below_alloc | apply pw_below_drewN | apply below_drew1 | refine below_set ?_ (IsS127.ge HI450.out) | refine below_set ?_ GE445.out | refine below_set ?_ GE446.out | refine below_set ?_ GE460.out | refine below_set ?_ GE461.out) | exact HB.out)⟩

/-! ### spec_DrawTreeDistance: function 45 -/
def spec_DrawTreeDistance.f (k : Nat) (l0 : List Int) : Option (Int × Int × Int × Int × Int × Int × Int) := (spec_DrawContains.f k l0).bind fun bt464 => (some (bt464.1, bt464.2.1, bt464.2.2.1, bt464.2.2.2.1, bt464.2.2.2.2.1, bt464.2.2.2.2.2.1, bt464.2.2.2.2.2.2))
theorem spec_DrawTreeDistance.mono : ∀ a0 k, LeO (spec_DrawTreeDistance.f k a0) (spec_DrawTreeDistance.f (k + 1) a0) := by
 intro a0 k
 unfold spec_DrawTreeDistance.f
 repeat' first
   | (with_reducible exact spec_DrawContains.mono _ _)
   | (with_reducible exact LeO.refl _)
   | (with_reducible exact LeO.none _)
   | (with_reducible refine LeO.ite ?_ ?_)
   | (with_reducible refine LeO.bind ?_ (fun _ => ?_))
   | refine LeO.ite ?_ ?_
   | refine LeO.bind ?_ (fun _ => ?_)
set_option maxHeartbeats 8000000 in
set_option maxRecDepth 100000 in
theorem spec_DrawTreeDistance.calls (k : Nat) (A0 : Option Addr) (c0 : Nat) (l0 : List Int) (r1 : Int) (r2 : Int) (r3 : Int) (r4 : Int) (r5 : Int) (r6 : Int) (r7 : Int) (w : World) (hr0 : Kd.C (Kd.int .u8) w A0 l0.length l0) (hc0 : l0.length ≤ c0) (h : spec_DrawTreeDistance.f k l0 = some (r1, r2, r3, r4, r5, r6, r7)) :
  Calls Try.prog 45 #[.slice A0 l0.length c0] w fun e w' => e = .returned (.tuple #[.int .i64 r1, .agg #[.int .i64 r2, .int .i64 r3, .int .i64 r4], .agg #[.int .i64 r5, .int .i64 r6, .int .i64 r7]]) ∧ Below w.heap.size w w' := by
 have hu27 := Try.underlying27
 have HR0 := Aside0.mk hr0
 have HC0 := Aside0.mk hc0
 clear hr0 hc0
 have HB := Aside0.mk (Below.refl w.heap.size w)
 have H : ((spec_DrawContains.f k l0).bind fun bt464 => (some (bt464.1, bt464.2.1, bt464.2.2.1, bt464.2.2.2.1, bt464.2.2.2.2.1, bt464.2.2.2.2.2.1, bt464.2.2.2.2.2.2))) = some (r1, r2, r3, r4, r5, r6, r7) := h
 clear h
 replace H := Option.bind_eq_some_iff.mp H
 obtain ⟨⟨t464, t465, t466, t467, t468, t469, t470⟩, A20, H⟩ := H
 replace H : (some (t464, t465, t466, t467, t468, t469, t470)) = some (r1, r2, r3, r4, r5, r6, r7) := H
 have A2 := Aside0.mk A20
 clear A20
 simp only [Option.some.injEq, Prod.mk.injEq] at H
 obtain ⟨rfl, rfl, rfl, rfl, rfl, rfl, rfl⟩ := H
 go_enter Try.func45, Try.ntmps45
 go_wp2_with (first | ((with_reducible refine gate_dst (N := 3) rfl ?_); refine bx (N := 3) (cs := #[.int .i64 0, .int .i64 0, .int .i64 0]) (t := 27) ?_; intro gb462 hg w3 hbox hb; have BK462 := Aside0.mk (hbox); have GW462 := sg hg; have GE462 := sg hg; replace HB := bs hb; clear hb hbox hg) | ((with_reducible refine gate_dst (N := 4) rfl ?_); refine bx (N := 4) (cs := #[.int .i64 0, .int .i64 0, .int .i64 0]) (t := 27) ?_; intro gb463 hg w4 hbox hb; have BK463 := Aside0.mk (hbox); have GW463 := sg hg; have GE463 := sg hg; have NB462_463 := nl hg BK462; have NB463_462 := ng hg BK462; replace BK462 := bb BK462 hb; replace HB := bs hb; clear hb hbox hg) | ((with_reducible refine gate_callee (f := 111) rfl ?_); refine g1 (some 6) Try.func111 #[.slice A0 l0.length c0] ?_; (with_reducible refine (spec_DrawContains.calls k _ _ l0 t464 t465 t466 t467 t468 t469 t470 _ ?side1 ?side2 A2.out).mono ?_); (case side1 => repeat (first | exact (Kd.C_below HR0.out HB.out) | (with_reducible refine Kd.C_alloc ?_ _) | (with_reducible refine Kd.C_drewN ?_ _) | (with_reducible refine Kd.C_drew ?_))); (case side2 => exact HC0.out); rintro e w5 ⟨rfl, hb⟩; refine ⟨_, rfl, ?_⟩; replace BK462 := bb BK462 hb; replace BK463 := bb BK463 hb; replace HB := bs hb; (try clear hb); (try clear hb2); (try clear hk); (try clear hi); have hnb6 := NB462_463.out; have hnc6 := NB463_462.out; obtain ⟨hcz7_0, hcz7_1, hcz7_2, hfz7_0, hfz7_1, hfz7_2⟩ := c3 BK462; obtain ⟨hcz8_0, hcz8_1, hcz8_2, hfz8_0, hfz8_1, hfz8_2⟩ := c3 BK463))
 refine bodyPost_ret (results_list (rs := [.tmp 2, .cell 3 27, .cell 4 27]) rfl (by simp) (.tmp (.cell gb462 27 #[.int .i64 t465, .int .i64 t466, .int .i64 t467] (0, 0) _ rfl (by (with_reducible repeat (first | apply bn | apply bd | apply ba)); refine blk_far ?_ NB462_463.out _; (with_reducible repeat (first | apply bn | apply bd | apply ba)); refine blk_far ?_ NB462_463.out _; (with_reducible repeat (first | apply bn | apply bd | apply ba)); refine blk_far ?_ NB462_463.out _; (with_reducible repeat (first | apply bn | apply bd | apply ba)); refine blk_put (cs := #[.int .i64 t465, .int .i64 t466, .int .i64 0]) ?_ 2 _ rfl; (with_reducible repeat (first | apply bn | apply bd | apply ba)); refine blk_put (cs := #[.int .i64 t465, .int .i64 0, .int .i64 0]) ?_ 1 _ rfl; (with_reducible repeat (first | apply bn | apply bd | apply ba)); refine blk_put (cs := #[.int .i64 0, .int .i64 0, .int .i64 0]) ?_ 0 _ rfl; (with_reducible repeat (first | apply bn | apply bd | apply ba)); exact BK462.out) Try.underlying27 rfl (by kernel_rfl) (.cell gb463 27 #[.int .i64 t468, .int .i64 t469, .int .i64 t470] (0, 0) _ rfl (by (with_reducible repeat (first | apply bn | apply bd | apply ba)); refine blk_put (cs := #[.int .i64 t468, .int .i64 t469, .int .i64 0]) ?_ 2 _ rfl; (with_reducible repeat (first | apply bn | apply bd | apply ba)); refine blk_put (cs := #[.int .i64 t468, .int .i64 0, .int .i64 0]) ?_ 1 _ rfl; (with_reducible repeat (first | apply bn | apply bd | apply ba)); refine blk_put (cs := #[.int .i64 0, .int .i64 0, .int .i64 0]) ?_ 0 _ rfl; (with_reducible repeat (first | apply bn | apply bd | apply ba)); refine blk_far ?_ NB463_462.out _; (with_reducible repeat (first | apply bn | apply bd | apply ba)); refine blk_far ?_ NB463_462.out _; (with_reducible repeat (first | apply bn | apply bd | apply ba)); refine blk_far ?_ NB463_462.out _; (with_reducible repeat (first | apply bn | apply bd | apply ba)); exact BK463.out) Try.underlying27 rfl (by kernel_rfl) .nil)))) rfl ?_
 exact ⟨by first | rfl | (simp [errW_none, errW_some] <;> rfl) | (simp [*, errW_none, errW_some] <;> rfl), by repeat (first | (with_reducible first | exact HB.out | apply below_alloc | apply pw_below_drewN | apply below_drew1 | refine below_set ?_ GE462.out | refine below_set ?_ GE463.out) | exact HB.out)⟩

/-! ### spec_l02Distance: function 89 -/
def spec_l02Distance.f (k : Nat) (a0 : Int) (a1_0 : Int) (a1_1 : Int) (a1_2 : Int) (a2_0 : Int) (a2_1 : Int) (a2_2 : Int) : Option (Int) := (spec_l02Join.f k a0 a1_0 a1_1 a1_2 a2_0 a2_1 a2_2).bind fun t473 => (some (wrap64 ((wrap64 (a1_0 + a2_0)) - (wrap64 (2 * t473)))))
theorem spec_l02Distance.mono : ∀ a0 a1 a2 a3 a4 a5 a6 k, LeO (spec_l02Distance.f k a0 a1 a2 a3 a4 a5 a6) (spec_l02Distance.f (k + 1) a0 a1 a2 a3 a4 a5 a6) := by
 intro a0 a1 a2 a3 a4 a5 a6 k
 unfold spec_l02Distance.f
 repeat' first
   | (with_reducible exact spec_l02Join.mono _ _ _ _ _ _ _ _)
   | (with_reducible exact LeO.refl _)
   | (with_reducible exact LeO.none _)
   | (with_reducible refine LeO.ite ?_ ?_)
   | (with_reducible refine LeO.bind ?_ (fun _ => ?_))
   | refine LeO.ite ?_ ?_
   | refine LeO.bind ?_ (fun _ => ?_)
def spec_l02Distance.T1 : Bool × List (List Nat × List Nat) := (true, [([], []), ([0], [0]), ([], []), ([2], [2]), ([1, 3], [1, 3]), ([], []), ([], []), ([], []), ([5, 6, 7], [5, 6, 7]), ([8], [8]), ([4, 9], [4, 9]), ([10, 8, 0, 1, 2, 3, 4, 5, 6, 7, 8, 9, 10], [10])])
def spec_l02Distance.B1 : List Nat := [0, 1, 0, 4, 15, 0, 0, 0, 224, 480, 1023, 2047]
theorem spec_l02Distance.tab1 : rtab .any (opsOf Try.f89 1) = spec_l02Distance.T1 := by kernel_rfl
theorem spec_l02Distance.bits1 : waitsOk spec_l02Distance.T1.2 spec_l02Distance.B1 = true := by kernel_rfl
set_option maxHeartbeats 8000000 in
set_option maxRecDepth 100000 in
theorem spec_l02Distance.calls (k : Nat) (a0 : Int) (a1_0 : Int) (a1_1 : Int) (a1_2 : Int) (a2_0 : Int) (a2_1 : Int) (a2_2 : Int) (r : Int) (w : World) (h : spec_l02Distance.f k a0 a1_0 a1_1 a1_2 a2_0 a2_1 a2_2 = some r) :
  Calls Try.prog 89 #[.int .i64 a0, .agg #[.int .i64 a1_0, .int .i64 a1_1, .int .i64 a1_2], .agg #[.int .i64 a2_0, .int .i64 a2_1, .int .i64 a2_2]] w fun e w' => e = .returned (.int .i64 r) ∧ Below w.heap.size w w' := by
 have hu27 := Try.underlying27
 have HB := Aside0.mk (Below.refl w.heap.size w)
 have H : ((spec_l02Join.f k a0 a1_0 a1_1 a1_2 a2_0 a2_1 a2_2).bind fun t473 => (some (wrap64 ((wrap64 (a1_0 + a2_0)) - (wrap64 (2 * t473)))))) = some r := h
 clear h
 replace H := Option.bind_eq_some_iff.mp H
 obtain ⟨t473, A40, H⟩ := H
 replace H : (some (wrap64 ((wrap64 (a1_0 + a2_0)) - (wrap64 (2 * t473))))) = some r := H
 have A4 := Aside0.mk A40
 clear A40
 obtain rfl := Option.some.inj H
 go_enter Try.func89, Try.ntmps89
 try go_wp2_with (first | ((with_reducible refine gate_dst (N := 4) rfl ?_); refine bx (N := 4) (cs := #[.int .i64 a1_0, .int .i64 a1_1, .int .i64 a1_2]) (t := 27) ?_; intro gb471 hg w5 hbox hb; have BK471 := Aside0.mk (hbox); have GW471 := sg hg; have GE471 := sg hg; replace HB := bs hb; clear hb hbox hg) | ((with_reducible refine gate_dst (N := 5) rfl ?_); refine bx (N := 5) (cs := #[.int .i64 a2_0, .int .i64 a2_1, .int .i64 a2_2]) (t := 27) ?_; intro gb472 hg w6 hbox hb; have BK472 := Aside0.mk (hbox); have GW472 := sg hg; have GE472 := sg hg; have NB471_472 := nl hg BK471; have NB472_471 := ng hg BK471; replace BK471 := bb BK471 hb; replace HB := bs hb; clear hb hbox hg))
 have n0_ := Aside0.mk (blk_drew BK471.out)
 have n1_ := Aside0.mk (blk_drew BK472.out)
 have n2_ := Aside0.mk (below_drew1 HB.out)
 clear BK471
 clear BK472
 clear HB
 have BK471 := n0_
 have BK472 := n1_
 have HB := n2_
 clear n0_ n1_ n2_
 refine start_ (n := 12) (S := fun w' => w'.cell? ⟨gb471, 0, none⟩ = some (.int .i64 a1_0) ∧ w'.cell? ⟨gb471, 1, none⟩ = some (.int .i64 a1_1) ∧ w'.cell? ⟨gb471, 2, none⟩ = some (.int .i64 a1_2) ∧ w'.cell? ⟨gb472, 0, none⟩ = some (.int .i64 a2_0) ∧ w'.cell? ⟨gb472, 1, none⟩ = some (.int .i64 a2_1) ∧ w'.cell? ⟨gb472, 2, none⟩ = some (.int .i64 a2_2)) (ds := []) #[false, false, false, false, false, false, false, false, false, false, false, false] (by kernel_rfl) rfl rfl ⟨(blk_cell BK471.out 0).trans rfl, (blk_cell BK471.out 1).trans rfl, (blk_cell BK471.out 2).trans rfl, (blk_cell BK472.out 0).trans rfl, (blk_cell BK472.out 1).trans rfl, (blk_cell BK472.out 2).trans rfl⟩ (fun hHeld => ?_); refine with_tabW spec_l02Distance.tab1 spec_l02Distance.bits1 (fun HT_ HW_ => ?_)
 generalize w6.drew = w7 at BK471 BK472 HB hHeld ⊢
 refine pu 0 (some 7) #[true, false, false, false, false, false, false, false, false, false, false, false] HT_ ?_
 refine pu 2 (some 9) #[true, false, true, false, false, false, false, false, false, false, false, false] HT_ ?_
 refine pu 5 (some 12) #[true, false, true, false, false, true, false, false, false, false, false, false] HT_ ?_
 refine take_ (i := 1) (N := some 8) (v := ?_) (a' := ?_) #[true, true, true, false, false, true, false, false, false, false, false, false] rfl rfl (take_ofW HT_.out HW_.out (by kernel_rfl)) (fun _ _ _ h => h) (Or.inl ⟨by rfl, ?_⟩) hHeld ?_ ?_
 rotate_left
 ·rintro w' ⟨s0, s1, s2, s3, s4, s5⟩
  go_simp
  with_reducible rfl
 rotate_left
 ·simp only [Act.put, List.setIfInBounds_toArray, List.set_cons_zero, List.set_cons_succ, i64_w, i32_w]
  rfl
 refine take_ (i := 3) (N := some 10) (v := ?_) (a' := ?_) #[true, true, true, true, false, true, false, false, false, false, false, false] rfl rfl (take_ofW HT_.out HW_.out (by kernel_rfl)) (fun _ _ _ h => h) (Or.inl ⟨by rfl, ?_⟩) hHeld ?_ ?_
 rotate_left
 ·rintro w' ⟨s0, s1, s2, s3, s4, s5⟩
  go_simp
  with_reducible rfl
 rotate_left
 ·simp only [Act.put, List.setIfInBounds_toArray, List.set_cons_zero, List.set_cons_succ, i64_w, i32_w]
  rfl
 refine pu 4 (some 11) #[true, true, true, true, true, true, false, false, false, false, false, false] HT_ ?_
 refine take_ (i := 6) (N := some 13) (v := ?_) (a' := ?_) #[true, true, true, true, true, true, true, false, false, false, false, false] rfl rfl (take_ofW HT_.out HW_.out (by kernel_rfl)) (fun _ _ _ h => h) (Or.inl ⟨by rfl, ?_⟩) hHeld ?_ ?_
 rotate_left
 ·rintro w' ⟨s0, s1, s2, s3, s4, s5⟩
  go_simp
  with_reducible rfl
 rotate_left
 ·simp only [Act.put, List.setIfInBounds_toArray, List.set_cons_zero, List.set_cons_succ, i64_w, i32_w]
  rfl
 refine take_ (i := 7) (N := some 14) (v := ?_) (a' := ?_) #[true, true, true, true, true, true, true, true, false, false, false, false] rfl rfl (take_ofW HT_.out HW_.out (by kernel_rfl)) (fun _ _ _ h => h) (Or.inl ⟨by rfl, ?_⟩) hHeld ?_ ?_
 rotate_left
 ·rintro w' ⟨s0, s1, s2, s3, s4, s5⟩
  go_simp
  with_reducible rfl
 rotate_left
 ·simp only [Act.put, List.setIfInBounds_toArray, List.set_cons_zero, List.set_cons_succ, i64_w, i32_w]
  rfl
 refine one_ (i := 8) (N := some 15) #[true, true, true, true, true, true, true, true, true, false, false, false] rfl rfl (one_of HT_.out (by kernel_rfl)) (by decide) (fun K hK => ?_)
 refine goes_ Try.func114 (by kernel_rfl) rfl #[.int .i64 a0, .agg #[.int .i64 a1_0, .int .i64 a1_1, .int .i64 a1_2], .agg #[.int .i64 a2_0, .int .i64 a2_1, .int .i64 a2_2]] (by rfl) rfl rfl (by (try simp only [List.map_toArray, List.map_cons, List.map_nil]); first | done | rfl | (simp only [List.length_drop, List.length_take]; rfl)) ?_
 with_reducible refine (spec_l02Join.calls k a0 a1_0 a1_1 a1_2 a2_0 a2_1 a2_2 t473 _ A4.out).mono ?_
 rintro e w8 ⟨rfl, hb⟩
 refine ⟨_, rfl, ?_⟩
 have n0_ := bb BK471 hb
 have n1_ := bb BK472 hb
 have n2_ := Aside0.mk (below_step (by repeat (first | (with_reducible first | exact HB.out | apply below_alloc | apply pw_below_drewN | apply below_drew1 | refine below_set ?_ GE471.out | refine below_set ?_ GE472.out) | exact HB.out)) hb)
 clear BK471
 clear BK472
 clear HB
 have BK471 := n0_
 have BK472 := n1_
 have HB := n2_
 clear n0_ n1_ n2_
 (try clear hb)
 (try clear hb2)
 (try clear hk)
 (try clear hi)
 refine hK.out _ _ ⟨(blk_cell BK471.out 0).trans rfl, (blk_cell BK471.out 1).trans rfl, (blk_cell BK471.out 2).trans rfl, (blk_cell BK472.out 0).trans rfl, (blk_cell BK472.out 1).trans rfl, (blk_cell BK472.out 2).trans rfl⟩ (fun hHeld => ?_)
 clear hK K
 refine norm_ (a' := ?_) ?_ ?_
 rotate_left
 ·show Act.put _ (some 15) _ = _
  simp only [Act.put, List.setIfInBounds_toArray, List.set_cons_zero, List.set_cons_succ, i64_w, i32_w]
  rfl
 refine pu 9 (some 16) #[true, true, true, true, true, true, true, true, true, true, false, false] HT_ ?_
 refine pu 10 (some 17) #[true, true, true, true, true, true, true, true, true, true, true, false] HT_ ?_
 refine pu 11 (some 6) #[true, true, true, true, true, true, true, true, true, true, true, true] HT_ ?_
 refine done_ (done_of HT_.out (by kernel_rfl)) ?_
 try go_wp2
 go_ret
 exact ⟨by first | rfl | (simp [errW_none, errW_some] <;> rfl) | (simp [*, errW_none, errW_some] <;> rfl), by repeat (first | (with_reducible first | exact HB.out | apply below_alloc | apply pw_below_drewN | apply below_drew1 | refine below_set ?_ GE471.out | refine below_set ?_ GE472.out) | exact HB.out)⟩

/-! ### spec_TreeDistance: function 46 -/
def spec_TreeDistance.f (k : Nat) (a0 : Int) (a1_0 : Int) (a1_1 : Int) (a1_2 : Int) (a2_0 : Int) (a2_1 : Int) (a2_2 : Int) : Option (Int × Int) := (spec_l01Code.f k a0 (([(⟨a1_0, a1_1, a1_2⟩ : S27), (⟨a2_0, a2_1, a2_2⟩ : S27)] : List (S27)))).bind fun t479 => (if t479 = 0 then ((spec_l02Distance.f k a0 a1_0 a1_1 a1_2 a2_0 a2_1 a2_2).bind fun t480 => (some (t480, 0))) else (some (0, t479)))
theorem spec_TreeDistance.mono : ∀ a0 a1 a2 a3 a4 a5 a6 k, LeO (spec_TreeDistance.f k a0 a1 a2 a3 a4 a5 a6) (spec_TreeDistance.f (k + 1) a0 a1 a2 a3 a4 a5 a6) := by
 intro a0 a1 a2 a3 a4 a5 a6 k
 unfold spec_TreeDistance.f
 repeat' first
   | (with_reducible exact spec_l01Code.mono _ _ _)
   | (with_reducible exact spec_l02Distance.mono _ _ _ _ _ _ _ _)
   | (with_reducible exact LeO.refl _)
   | (with_reducible exact LeO.none _)
   | (with_reducible refine LeO.ite ?_ ?_)
   | (with_reducible refine LeO.bind ?_ (fun _ => ?_))
   | refine LeO.ite ?_ ?_
   | refine LeO.bind ?_ (fun _ => ?_)
set_option maxHeartbeats 8000000 in
set_option maxRecDepth 100000 in
theorem spec_TreeDistance.calls (k : Nat) (a0 : Int) (a1_0 : Int) (a1_1 : Int) (a1_2 : Int) (a2_0 : Int) (a2_1 : Int) (a2_2 : Int) (r1 : Int) (r2 : Int) (w : World) (h : spec_TreeDistance.f k a0 a1_0 a1_1 a1_2 a2_0 a2_1 a2_2 = some (r1, r2)) :
  Calls Try.prog 46 #[.int .i64 a0, .agg #[.int .i64 a1_0, .int .i64 a1_1, .int .i64 a1_2], .agg #[.int .i64 a2_0, .int .i64 a2_1, .int .i64 a2_2]] w fun e w' => e = .returned (.tuple #[.int .i64 r1, .int .i64 r2]) ∧ Below w.heap.size w w' := by
 have hu27 := Try.underlying27
 have HB := Aside0.mk (Below.refl w.heap.size w)
 have H : ((spec_l01Code.f k a0 (([(⟨a1_0, a1_1, a1_2⟩ : S27), (⟨a2_0, a2_1, a2_2⟩ : S27)] : List (S27)))).bind fun t479 => (if t479 = 0 then ((spec_l02Distance.f k a0 a1_0 a1_1 a1_2 a2_0 a2_1 a2_2).bind fun t480 => (some (t480, 0))) else (some (0, t479)))) = some (r1, r2) := h
 clear h
 obtain ⟨y476, hy476⟩ : ∃ y_ : List (S27), y_ = (([(⟨a1_0, a1_1, a1_2⟩ : S27), (⟨a2_0, a2_1, a2_2⟩ : S27)] : List (S27))) := ⟨_, rfl⟩
 replace H : ((spec_l01Code.f k a0 y476).bind fun t479 => (if t479 = 0 then ((spec_l02Distance.f k a0 a1_0 a1_1 a1_2 a2_0 a2_1 a2_2).bind fun t480 => (some (t480, 0))) else (some (0, t479)))) = some (r1, r2) := by first | (rw [hy476]; with_reducible exact H) | (have H2_ := (Option.bind_some _ _).symm.trans H; rw [hy476]; with_reducible exact H2_) | (have H2_ := (Option.bind_some _ _).symm.trans H; with_reducible exact H2_) | with_reducible exact H | (rw [hy476]; exact H) | exact H
 have Ny476 := Aside0.mk hy476
 clear hy476
 replace H := Option.bind_eq_some_iff.mp H
 obtain ⟨t479, A40, H⟩ := H
 replace H : (if t479 = 0 then ((spec_l02Distance.f k a0 a1_0 a1_1 a1_2 a2_0 a2_1 a2_2).bind fun t480 => (some (t480, 0))) else (some (0, t479))) = some (r1, r2) := H
 have A4 := Aside0.mk A40
 clear A40
 by_cases c5 : t479 = 0
 ·rw [if_pos c5] at H
  have c5b0 : (t479 == 0) = true := beq_iff_eq.mpr c5
  have c5b1 : (t479 != 0) = false := bne_eq_false_iff_eq.mpr c5
  clear c5
  replace H := Option.bind_eq_some_iff.mp H
  obtain ⟨t480, A60, H⟩ := H
  replace H : (some (t480, 0)) = some (r1, r2) := H
  have A6 := Aside0.mk A60
  clear A60
  simp only [Option.some.injEq, Prod.mk.injEq] at H
  obtain ⟨rfl, rfl⟩ := H
  go_enter Try.func46, Try.ntmps46
  go_wp2_with (first | ((with_reducible refine gate_dst (N := 4) rfl ?_); refine bx (N := 4) (cs := #[.int .i64 a1_0, .int .i64 a1_1, .int .i64 a1_2]) (t := 27) ?_; intro gb474 hg w7 hbox hb; have BK474 := Aside0.mk (hbox); have GW474 := sg hg; have GE474 := sg hg; replace HB := bs hb; clear hb hbox hg) | ((with_reducible refine gate_dst (N := 5) rfl ?_); refine bx (N := 5) (cs := #[.int .i64 a2_0, .int .i64 a2_1, .int .i64 a2_2]) (t := 27) ?_; intro gb475 hg w8 hbox hb; have BK475 := Aside0.mk (hbox); have GW475 := sg hg; have GE475 := sg hg; have NB474_475 := nl hg BK474; have NB475_474 := ng hg BK474; replace BK474 := bb BK474 hb; replace HB := bs hb; clear hb hbox hg; have hnb9 := NB474_475.out; have hnc9 := NB475_474.out; obtain ⟨hcz10_0, hcz10_1, hcz10_2, hfz10_0, hfz10_1, hfz10_2⟩ := c3 BK474; obtain ⟨hcz11_0, hcz11_1, hcz11_2, hfz11_0, hfz11_1, hfz11_2⟩ := c3 BK475) | ((with_reducible refine gate_dst (N := 12) rfl ?_); refine Kd.R_lit k27 _ 27 ?hg (N := 12) ?hd (xs := ([(⟨a1_0, a1_1, a1_2⟩ : S27), (⟨a2_0, a2_1, a2_2⟩ : S27)] : List (S27))) (inner := [.int .i64 a1_0, .int .i64 a1_1, .int .i64 a1_2, .int .i64 a2_0, .int .i64 a2_1, .int .i64 a2_2]) (ok := fun _ => True) (okp := fun _ => True) ?hr ?hp (fun _ hk => hk) trivial (Below.refl _ _) (Nat.le_refl _) (by simp) ?_; (case hd => rfl); (case hg => rfl); (case hr => first | (go_simp; done) | (go_simp; rfl)); (case hp => exact (Reps.c3 (show Kd.M k27 _ _ _ (⟨a1_0, a1_1, a1_2⟩ : S27) [.int .i64 a1_0, .int .i64 a1_1, .int .i64 a1_2] from (k27_mkM _ _ _ (⟨a1_0, a1_1, a1_2⟩ : S27) )) (Reps.c3 (show Kd.M k27 _ _ _ (⟨a2_0, a2_1, a2_2⟩ : S27) [.int .i64 a2_0, .int .i64 a2_1, .int .i64 a2_2] from (k27_mkM _ _ _ (⟨a2_0, a2_1, a2_2⟩ : S27) )) (Reps.none _ _)))); intro v477 w12 ho13 hb hg_ hnew_; clear hg_ hnew_; (first | rw [← Ny476.out] at ho13 | (simp only [Int.reduceToNat] at ho13; rw [← Ny476.out] at ho13)); have HO478 := Aside0.mk (Kd.R_lower (Kd.R_newB (Kd.R_newB ho13 (g := gb474) (o := .cells #[.int .i64 a1_0, .int .i64 a1_1, .int .i64 a1_2] 27 (0, 0)) (be BK474)) (g := gb475) (o := .cells #[.int .i64 a2_0, .int .i64 a2_1, .int .i64 a2_2] 27 (0, 0)) (be BK475)) (below_size (by repeat (first | (with_reducible first | exact HB.out | apply below_alloc | apply pw_below_drewN | apply below_drew1 | refine below_set ?_ GE474.out | refine below_set ?_ GE475.out) | exact HB.out)))); replace BK474 := bb BK474 hb; replace BK475 := bb BK475 hb; replace HB := bs hb; clear hb ho13; obtain ⟨Ao14, co14, eo14⟩ := Kd.R_slice HO478.out; subst eo14) | ((with_reducible refine gate_callee (f := 81) rfl ?_); refine g1 (some 13) Try.func81 #[.int .i64 a0, .slice Ao14 y476.length co14] ?_; (with_reducible refine (spec_l01Code.calls k a0 _ _ y476 t479 _ ?side1 ?side2 A4.out).mono ?_); (case side1 => repeat (first | exact (Kd.R_reads' HO478.out).2.2 | (with_reducible refine Kd.C_alloc ?_ _) | (with_reducible refine Kd.C_drewN ?_ _) | (with_reducible refine Kd.C_drew ?_))); (case side2 => exact (Kd.R_reads' HO478.out).2.1); rintro e w15 ⟨rfl, hb⟩; refine ⟨_, rfl, ?_⟩; replace HO478 := Aside0.mk (Kd.R_below (by (with_reducible repeat (first | apply Kd.R_alloc | apply Kd.R_drewN | apply Kd.R_drew)); exact HO478.out) hb); replace BK474 := bb BK474 hb; replace BK475 := bb BK475 hb; replace HB := bs hb; (try clear hb); (try clear hb2); (try clear hk); (try clear hi); obtain ⟨hcz16_0, hcz16_1, hcz16_2, hfz16_0, hfz16_1, hfz16_2⟩ := c3 BK474; obtain ⟨hcz17_0, hcz17_1, hcz17_2, hfz17_0, hfz17_1, hfz17_2⟩ := c3 BK475) | ((with_reducible refine gate_callee (f := 89) rfl ?_); refine g1 (some 20) Try.func89 #[.int .i64 a0, .agg #[.int .i64 a1_0, .int .i64 a1_1, .int .i64 a1_2], .agg #[.int .i64 a2_0, .int .i64 a2_1, .int .i64 a2_2]] ?_; (with_reducible refine (spec_l02Distance.calls k a0 a1_0 a1_1 a1_2 a2_0 a2_1 a2_2 t480 _ A6.out).mono ?_); rintro e w18 ⟨rfl, hb⟩; refine ⟨_, rfl, ?_⟩; replace HO478 := Aside0.mk (Kd.R_below (by (with_reducible repeat (first | apply Kd.R_alloc | apply Kd.R_drewN | apply Kd.R_drew)); exact HO478.out) hb); replace BK474 := bb BK474 hb; replace BK475 := bb BK475 hb; replace HB := bs hb; (try clear hb); (try clear hb2); (try clear hk); (try clear hi)))
  go_ret2
  exact ⟨by first | rfl | (simp [errW_none, errW_some] <;> rfl) | (simp [*, errW_none, errW_some] <;> rfl), by repeat (first | (with_reducible first | exact HB.out | apply below_alloc | apply pw_below_drewN | apply below_drew1 | refine below_set ?_ GE474.out | refine below_set ?_ GE475.out) | exact HB.out)⟩
 ·rw [if_neg c5] at H
  have c5b0 : (t479 == 0) = false := beq_eq_false_iff_ne.mpr c5
  have c5b1 : (t479 != 0) = true := bne_iff_ne.mpr c5
  simp only [Option.some.injEq, Prod.mk.injEq] at H
  obtain ⟨rfl, rfl⟩ := H
  go_enter Try.func46, Try.ntmps46
  go_wp2_with (first | ((with_reducible refine gate_dst (N := 4) rfl ?_); refine bx (N := 4) (cs := #[.int .i64 a1_0, .int .i64 a1_1, .int .i64 a1_2]) (t := 27) ?_; intro gb474 hg w19 hbox hb; have BK474 := Aside0.mk (hbox); have GW474 := sg hg; have GE474 := sg hg; replace HB := bs hb; clear hb hbox hg) | ((with_reducible refine gate_dst (N := 5) rfl ?_); refine bx (N := 5) (cs := #[.int .i64 a2_0, .int .i64 a2_1, .int .i64 a2_2]) (t := 27) ?_; intro gb475 hg w20 hbox hb; have BK475 := Aside0.mk (hbox); have GW475 := sg hg; have GE475 := sg hg; have NB474_475 := nl hg BK474; have NB475_474 := ng hg BK474; replace BK474 := bb BK474 hb; replace HB := bs hb; clear hb hbox hg; have hnb21 := NB474_475.out; have hnc21 := NB475_474.out; obtain ⟨hcz22_0, hcz22_1, hcz22_2, hfz22_0, hfz22_1, hfz22_2⟩ := c3 BK474; obtain ⟨hcz23_0, hcz23_1, hcz23_2, hfz23_0, hfz23_1, hfz23_2⟩ := c3 BK475) | ((with_reducible refine gate_dst (N := 12) rfl ?_); refine Kd.R_lit k27 _ 27 ?hg (N := 12) ?hd (xs := ([(⟨a1_0, a1_1, a1_2⟩ : S27), (⟨a2_0, a2_1, a2_2⟩ : S27)] : List (S27))) (inner := [.int .i64 a1_0, .int .i64 a1_1, .int .i64 a1_2, .int .i64 a2_0, .int .i64 a2_1, .int .i64 a2_2]) (ok := fun _ => True) (okp := fun _ => True) ?hr ?hp (fun _ hk => hk) trivial (Below.refl _ _) (Nat.le_refl _) (by simp) ?_; (case hd => rfl); (case hg => rfl); (case hr => first | (go_simp; done) | (go_simp; rfl)); (case hp => exact (Reps.c3 (show Kd.M k27 _ _ _ (⟨a1_0, a1_1, a1_2⟩ : S27) [.int .i64 a1_0, .int .i64 a1_1, .int .i64 a1_2] from (k27_mkM _ _ _ (⟨a1_0, a1_1, a1_2⟩ : S27) )) (Reps.c3 (show Kd.M k27 _ _ _ (⟨a2_0, a2_1, a2_2⟩ : S27) [.int .i64 a2_0, .int .i64 a2_1, .int .i64 a2_2] from (k27_mkM _ _ _ (⟨a2_0, a2_1, a2_2⟩ : S27) )) (Reps.none _ _)))); intro v477 w24 ho25 hb hg_ hnew_; clear hg_ hnew_; (first | rw [← Ny476.out] at ho25 | (simp only [Int.reduceToNat] at ho25; rw [← Ny476.out] at ho25)); have HO478 := Aside0.mk (Kd.R_lower (Kd.R_newB (Kd.R_newB ho25 (g := gb474) (o := .cells #[.int .i64 a1_0, .int .i64 a1_1, .int .i64 a1_2] 27 (0, 0)) (be BK474)) (g := gb475) (o := .cells #[.int .i64 a2_0, .int .i64 a2_1, .int .i64 a2_2] 27 (0, 0)) (be BK475)) (below_size (by repeat (first | (with_reducible first | exact HB.out | apply below_alloc | apply pw_below_drewN | apply below_drew1 | refine below_set ?_ GE474.out | refine below_set ?_ GE475.out) | exact HB.out)))); replace BK474 := bb BK474 hb; replace BK475 := bb BK475 hb; replace HB := bs hb; clear hb ho25; obtain ⟨Ao26, co26, eo26⟩ := Kd.R_slice HO478.out; subst eo26) | ((with_reducible refine gate_callee (f := 81) rfl ?_); refine g1 (some 13) Try.func81 #[.int .i64 a0, .slice Ao26 y476.length co26] ?_; (with_reducible refine (spec_l01Code.calls k a0 _ _ y476 t479 _ ?side1 ?side2 A4.out).mono ?_); (case side1 => repeat (first | exact (Kd.R_reads' HO478.out).2.2 | (with_reducible refine Kd.C_alloc ?_ _) | (with_reducible refine Kd.C_drewN ?_ _) | (with_reducible refine Kd.C_drew ?_))); (case side2 => exact (Kd.R_reads' HO478.out).2.1); rintro e w27 ⟨rfl, hb⟩; refine ⟨_, rfl, ?_⟩; replace HO478 := Aside0.mk (Kd.R_below (by (with_reducible repeat (first | apply Kd.R_alloc | apply Kd.R_drewN | apply Kd.R_drew)); exact HO478.out) hb); replace BK474 := bb BK474 hb; replace BK475 := bb BK475 hb; replace HB := bs hb; (try clear hb); (try clear hb2); (try clear hk); (try clear hi)))
  go_ret2
  exact ⟨by first | rfl | (simp [errW_none, errW_some] <;> rfl) | (simp [*, errW_none, errW_some] <;> rfl), by repeat (first | (with_reducible first | exact HB.out | apply below_alloc | apply pw_below_drewN | apply below_drew1 | refine below_set ?_ GE474.out | refine below_set ?_ GE475.out) | exact HB.out)⟩

/-! ### impl_join: function 112 -/
def impl_join.f (k : Nat) (a0 : Int) (a1_0 : Int) (a1_1 : Int) (a1_2 : Int) (a2_0 : Int) (a2_1 : Int) (a2_2 : Int) : Option (Int × Int × Int) := (impl_joinLevel.f k a0 a1_0 a1_1 a1_2 a2_0 a2_1 a2_2).bind fun t484 => ((impl_above.f k a0 a1_0 a1_1 a1_2 t484).bind fun bt485 => (some (bt485.1, bt485.2.1, bt485.2.2)))
theorem impl_join.mono : ∀ a0 a1 a2 a3 a4 a5 a6 k, LeO (impl_join.f k a0 a1 a2 a3 a4 a5 a6) (impl_join.f (k + 1) a0 a1 a2 a3 a4 a5 a6) := by
 intro a0 a1 a2 a3 a4 a5 a6 k
 unfold impl_join.f
 repeat' first
   | (with_reducible exact impl_above.mono _ _ _ _ _ _)
   | (with_reducible exact impl_joinLevel.mono _ _ _ _ _ _ _ _)
   | (with_reducible exact LeO.refl _)
   | (with_reducible exact LeO.none _)
   | (with_reducible refine LeO.ite ?_ ?_)
   | (with_reducible refine LeO.bind ?_ (fun _ => ?_))
   | refine LeO.ite ?_ ?_
   | refine LeO.bind ?_ (fun _ => ?_)
def impl_join.T1 : Bool × List (List Nat × List Nat) := (true, [([], []), ([], []), ([], []), ([], []), ([], []), ([2, 3, 4], [2, 3, 4]), ([0, 1, 5, 5], [0, 1, 5]), ([6, 6, 0, 1, 2, 3, 4, 5, 6], [6])])
def impl_join.B1 : List Nat := [0, 0, 0, 0, 0, 28, 63, 127]
theorem impl_join.tab1 : rtab .any (opsOf Try.f112 1) = impl_join.T1 := by kernel_rfl
theorem impl_join.bits1 : waitsOk impl_join.T1.2 impl_join.B1 = true := by kernel_rfl
set_option maxHeartbeats 8000000 in
set_option maxRecDepth 100000 in
theorem impl_join.calls (k : Nat) (a0 : Int) (a1_0 : Int) (a1_1 : Int) (a1_2 : Int) (a2_0 : Int) (a2_1 : Int) (a2_2 : Int) (r1 : Int) (r2 : Int) (r3 : Int) (w : World) (h : impl_join.f k a0 a1_0 a1_1 a1_2 a2_0 a2_1 a2_2 = some (r1, r2, r3)) :
  Calls Try.prog 112 #[.int .i64 a0, .agg #[.int .i64 a1_0, .int .i64 a1_1, .int .i64 a1_2], .agg #[.int .i64 a2_0, .int .i64 a2_1, .int .i64 a2_2]] w fun e w' => e = .returned (.agg #[.int .i64 r1, .int .i64 r2, .int .i64 r3]) ∧ Below w.heap.size w w' := by
 have hu27 := Try.underlying27
 have HB := Aside0.mk (Below.refl w.heap.size w)
 have H : ((impl_joinLevel.f k a0 a1_0 a1_1 a1_2 a2_0 a2_1 a2_2).bind fun t484 => ((impl_above.f k a0 a1_0 a1_1 a1_2 t484).bind fun bt485 => (some (bt485.1, bt485.2.1, bt485.2.2)))) = some (r1, r2, r3) := h
 clear h
 replace H := Option.bind_eq_some_iff.mp H
 obtain ⟨t484, A40, H⟩ := H
 replace H : ((impl_above.f k a0 a1_0 a1_1 a1_2 t484).bind fun bt485 => (some (bt485.1, bt485.2.1, bt485.2.2))) = some (r1, r2, r3) := H
 have A4 := Aside0.mk A40
 clear A40
 replace H := Option.bind_eq_some_iff.mp H
 obtain ⟨⟨t485, t486, t487⟩, A50, H⟩ := H
 replace H : (some (t485, t486, t487)) = some (r1, r2, r3) := H
 have A5 := Aside0.mk A50
 clear A50
 simp only [Option.some.injEq, Prod.mk.injEq] at H
 obtain ⟨rfl, rfl, rfl⟩ := H
 go_enter Try.func112, Try.ntmps112
 try go_wp2_with (first | ((with_reducible refine gate_dst (N := 4) rfl ?_); refine bx (N := 4) (cs := #[.int .i64 a1_0, .int .i64 a1_1, .int .i64 a1_2]) (t := 27) ?_; intro gb481 hg w6 hbox hb; have BK481 := Aside0.mk (hbox); have GW481 := sg hg; have GE481 := sg hg; replace HB := bs hb; clear hb hbox hg) | ((with_reducible refine gate_dst (N := 5) rfl ?_); refine bx (N := 5) (cs := #[.int .i64 a2_0, .int .i64 a2_1, .int .i64 a2_2]) (t := 27) ?_; intro gb482 hg w7 hbox hb; have BK482 := Aside0.mk (hbox); have GW482 := sg hg; have GE482 := sg hg; have NB481_482 := nl hg BK481; have NB482_481 := ng hg BK481; replace BK481 := bb BK481 hb; replace HB := bs hb; clear hb hbox hg) | ((with_reducible refine gate_dst (N := 6) rfl ?_); refine bx (N := 6) (cs := #[.int .i64 0, .int .i64 0, .int .i64 0]) (t := 27) ?_; intro gb483 hg w8 hbox hb; have BK483 := Aside0.mk (hbox); have GW483 := sg hg; have GE483 := sg hg; have NB481_483 := nl hg BK481; have NB483_481 := ng hg BK481; have NB482_483 := nl hg BK482; have NB483_482 := ng hg BK482; replace BK481 := bb BK481 hb; replace BK482 := bb BK482 hb; replace HB := bs hb; clear hb hbox hg))
 have n0_ := Aside0.mk (blk_drew BK481.out)
 have n1_ := Aside0.mk (blk_drew BK482.out)
 have n2_ := Aside0.mk (blk_drew BK483.out)
 have n3_ := Aside0.mk (below_drew1 HB.out)
 clear BK481
 clear BK482
 clear BK483
 clear HB
 have BK481 := n0_
 have BK482 := n1_
 have BK483 := n2_
 have HB := n3_
 clear n0_ n1_ n2_ n3_
 refine start_ (n := 8) (S := fun w' => w'.cell? ⟨gb481, 0, none⟩ = some (.int .i64 a1_0) ∧ w'.cell? ⟨gb481, 1, none⟩ = some (.int .i64 a1_1) ∧ w'.cell? ⟨gb481, 2, none⟩ = some (.int .i64 a1_2) ∧ w'.cell? ⟨gb482, 0, none⟩ = some (.int .i64 a2_0) ∧ w'.cell? ⟨gb482, 1, none⟩ = some (.int .i64 a2_1) ∧ w'.cell? ⟨gb482, 2, none⟩ = some (.int .i64 a2_2)) (ds := []) #[false, false, false, false, false, false, false, false] (by kernel_rfl) rfl rfl ⟨(blk_cell BK481.out 0).trans rfl, (blk_cell BK481.out 1).trans rfl, (blk_cell BK481.out 2).trans rfl, (blk_cell BK482.out 0).trans rfl, (blk_cell BK482.out 1).trans rfl, (blk_cell BK482.out 2).trans rfl⟩ (fun hHeld => ?_); refine with_tabW impl_join.tab1 impl_join.bits1 (fun HT_ HW_ => ?_)
 generalize w8.drew = w9 at BK481 BK482 BK483 HB hHeld ⊢
 refine pu 0 (some 7) #[true, false, false, false, false, false, false, false] HT_ ?_
 refine pu 2 (some 9) #[true, false, true, false, false, false, false, false] HT_ ?_
 refine take_ (i := 1) (N := some 8) (v := ?_) (a' := ?_) #[true, true, true, false, false, false, false, false] rfl rfl (take_ofW HT_.out HW_.out (by kernel_rfl)) (fun _ _ _ h => h) (Or.inl ⟨by rfl, ?_⟩) hHeld ?_ ?_
 rotate_left
 ·rintro w' ⟨s0, s1, s2, s3, s4, s5⟩
  go_simp
  with_reducible rfl
 rotate_left
 ·simp only [Act.put, List.setIfInBounds_toArray, List.set_cons_zero, List.set_cons_succ, i64_w, i32_w]
  rfl
 refine take_ (i := 3) (N := some 10) (v := ?_) (a' := ?_) #[true, true, true, true, false, false, false, false] rfl rfl (take_ofW HT_.out HW_.out (by kernel_rfl)) (fun _ _ _ h => h) (Or.inl ⟨by rfl, ?_⟩) hHeld ?_ ?_
 rotate_left
 ·rintro w' ⟨s0, s1, s2, s3, s4, s5⟩
  go_simp
  with_reducible rfl
 rotate_left
 ·simp only [Act.put, List.setIfInBounds_toArray, List.set_cons_zero, List.set_cons_succ, i64_w, i32_w]
  rfl
 refine take_ (i := 4) (N := some 11) (v := ?_) (a' := ?_) #[true, true, true, true, true, false, false, false] rfl rfl (take_ofW HT_.out HW_.out (by kernel_rfl)) (fun _ _ _ h => h) (Or.inl ⟨by rfl, ?_⟩) hHeld ?_ ?_
 rotate_left
 ·rintro w' ⟨s0, s1, s2, s3, s4, s5⟩
  go_simp
  with_reducible rfl
 rotate_left
 ·simp only [Act.put, List.setIfInBounds_toArray, List.set_cons_zero, List.set_cons_succ, i64_w, i32_w]
  rfl
 refine one_ (i := 5) (N := some 12) #[true, true, true, true, true, true, false, false] rfl rfl (one_of HT_.out (by kernel_rfl)) (by decide) (fun K hK => ?_)
 refine goes_ Try.func139 (by kernel_rfl) rfl #[.int .i64 a0, .agg #[.int .i64 a1_0, .int .i64 a1_1, .int .i64 a1_2], .agg #[.int .i64 a2_0, .int .i64 a2_1, .int .i64 a2_2]] (by rfl) rfl rfl (by (try simp only [List.map_toArray, List.map_cons, List.map_nil]); first | done | rfl | (simp only [List.length_drop, List.length_take]; rfl)) ?_
 with_reducible refine (impl_joinLevel.calls k a0 a1_0 a1_1 a1_2 a2_0 a2_1 a2_2 t484 _ A4.out).mono ?_
 rintro e w10 ⟨rfl, hb⟩
 refine ⟨_, rfl, ?_⟩
 have n0_ := bb BK481 hb
 have n1_ := bb BK482 hb
 have n2_ := bb BK483 hb
 have n3_ := Aside0.mk (below_step (by repeat (first | (with_reducible first | exact HB.out | apply below_alloc | apply pw_below_drewN | apply below_drew1 | refine below_set ?_ GE481.out | refine below_set ?_ GE482.out | refine below_set ?_ GE483.out) | exact HB.out)) hb)
 clear BK481
 clear BK482
 clear BK483
 clear HB
 have BK481 := n0_
 have BK482 := n1_
 have BK483 := n2_
 have HB := n3_
 clear n0_ n1_ n2_ n3_
 (try clear hb)
 (try clear hb2)
 (try clear hk)
 (try clear hi)
 refine hK.out _ _ ⟨(blk_cell BK481.out 0).trans rfl, (blk_cell BK481.out 1).trans rfl, (blk_cell BK481.out 2).trans rfl, (blk_cell BK482.out 0).trans rfl, (blk_cell BK482.out 1).trans rfl, (blk_cell BK482.out 2).trans rfl⟩ (fun hHeld => ?_)
 clear hK K
 refine norm_ (a' := ?_) ?_ ?_
 rotate_left
 ·show Act.put _ (some 12) _ = _
  simp only [Act.put, List.setIfInBounds_toArray, List.set_cons_zero, List.set_cons_succ, i64_w, i32_w]
  rfl
 refine one_ (i := 6) (N := some 13) #[true, true, true, true, true, true, true, false] rfl rfl (one_of HT_.out (by kernel_rfl)) (by decide) (fun K hK => ?_)
 refine goes_ Try.func140 (by kernel_rfl) rfl #[.int .i64 a0, .agg #[.int .i64 a1_0, .int .i64 a1_1, .int .i64 a1_2], .int .i64 t484] (by rfl) rfl rfl (by (try simp only [List.map_toArray, List.map_cons, List.map_nil]); first | done | rfl | (simp only [List.length_drop, List.length_take]; rfl)) ?_
 with_reducible refine (impl_above.calls k a0 a1_0 a1_1 a1_2 t484 t485 t486 t487 _ A5.out).mono ?_
 rintro e w11 ⟨rfl, hb⟩
 refine ⟨_, rfl, ?_⟩
 have n0_ := bb BK481 hb
 have n1_ := bb BK482 hb
 have n2_ := bb BK483 hb
 have n3_ := Aside0.mk (below_step (by repeat (first | (with_reducible first | exact HB.out | apply below_alloc | apply pw_below_drewN | apply below_drew1 | refine below_set ?_ GE481.out | refine below_set ?_ GE482.out | refine below_set ?_ GE483.out) | exact HB.out)) hb)
 clear BK481
 clear BK482
 clear BK483
 clear HB
 have BK481 := n0_
 have BK482 := n1_
 have BK483 := n2_
 have HB := n3_
 clear n0_ n1_ n2_ n3_
 (try clear hb)
 (try clear hb2)
 (try clear hk)
 (try clear hi)
 refine hK.out _ _ ⟨(blk_cell BK481.out 0).trans rfl, (blk_cell BK481.out 1).trans rfl, (blk_cell BK481.out 2).trans rfl, (blk_cell BK482.out 0).trans rfl, (blk_cell BK482.out 1).trans rfl, (blk_cell BK482.out 2).trans rfl⟩ (fun hHeld => ?_)
 clear hK K
 refine norm_ (a' := ?_) ?_ ?_
 rotate_left
 ·show Act.put _ (some 13) _ = _
  simp only [Act.put, List.setIfInBounds_toArray, List.set_cons_zero, List.set_cons_succ, i64_w, i32_w]
  rfl
 refine one_ (i := 7) (N := none) #[true, true, true, true, true, true, true, true] rfl rfl (one_of HT_.out (by kernel_rfl)) (by decide) (fun K hK => ?_)
 have hs12 : w11.cell? ⟨gb483, 0, none⟩ = some (.int .i64 0) := (blk_cell BK483.out 0).trans rfl
 have hfs12 := blk_frozen BK483.out 0
 have hns12_0 := NB481_483.out
 have hns12_1 := NB482_483.out
 have hms12_0 := NB483_481.out
 have hms12_1 := NB483_482.out
 have hs13 : w11.cell? ⟨gb483, 1, none⟩ = some (.int .i64 0) := (blk_cell BK483.out 1).trans rfl
 have hfs13 := blk_frozen BK483.out 1
 have hns13_0 := NB481_483.out
 have hns13_1 := NB482_483.out
 have hms13_0 := NB483_481.out
 have hms13_1 := NB483_482.out
 have hs14 : w11.cell? ⟨gb483, 2, none⟩ = some (.int .i64 0) := (blk_cell BK483.out 2).trans rfl
 have hfs14 := blk_frozen BK483.out 2
 have hns14_0 := NB481_483.out
 have hns14_1 := NB482_483.out
 have hms14_0 := NB483_481.out
 have hms14_1 := NB483_482.out
 refine skip_ (w1 := ?_) (by rfl) rfl ?_ ?_
 rotate_left
 ·go_simp
  rfl
 refine hK.out _ _ ⟨((cell_far (p := ⟨gb483, _, none⟩) NB481_483.out _).trans (((cell_far (p := ⟨gb483, _, none⟩) NB481_483.out _).trans (((cell_far (p := ⟨gb483, _, none⟩) NB481_483.out _).trans (hHeld.1)))))), ((cell_far (p := ⟨gb483, _, none⟩) NB481_483.out _).trans (((cell_far (p := ⟨gb483, _, none⟩) NB481_483.out _).trans (((cell_far (p := ⟨gb483, _, none⟩) NB481_483.out _).trans (hHeld.2.1)))))), ((cell_far (p := ⟨gb483, _, none⟩) NB481_483.out _).trans (((cell_far (p := ⟨gb483, _, none⟩) NB481_483.out _).trans (((cell_far (p := ⟨gb483, _, none⟩) NB481_483.out _).trans (hHeld.2.2.1)))))), ((cell_far (p := ⟨gb483, _, none⟩) NB482_483.out _).trans (((cell_far (p := ⟨gb483, _, none⟩) NB482_483.out _).trans (((cell_far (p := ⟨gb483, _, none⟩) NB482_483.out _).trans (hHeld.2.2.2.1)))))), ((cell_far (p := ⟨gb483, _, none⟩) NB482_483.out _).trans (((cell_far (p := ⟨gb483, _, none⟩) NB482_483.out _).trans (((cell_far (p := ⟨gb483, _, none⟩) NB482_483.out _).trans (hHeld.2.2.2.2.1)))))), ((cell_far (p := ⟨gb483, _, none⟩) NB482_483.out _).trans (((cell_far (p := ⟨gb483, _, none⟩) NB482_483.out _).trans (((cell_far (p := ⟨gb483, _, none⟩) NB482_483.out _).trans (hHeld.2.2.2.2.2))))))⟩ (fun hHeld => ?_)
 clear hK K
 refine done_ (done_of HT_.out (by kernel_rfl)) ?_
 try go_wp2
 refine bodyPost_ret (results_cell_row rfl _ _ gb483 27 #[.int .i64 t485, .int .i64 t486, .int .i64 t487] (0, 0) _ rfl (by (with_reducible repeat (first | apply bn | apply bd | apply ba)); refine blk_put (cs := #[.int .i64 t485, .int .i64 t486, .int .i64 0]) ?_ 2 _ rfl; (with_reducible repeat (first | apply bn | apply bd | apply ba)); refine blk_put (cs := #[.int .i64 t485, .int .i64 0, .int .i64 0]) ?_ 1 _ rfl; (with_reducible repeat (first | apply bn | apply bd | apply ba)); refine blk_put (cs := #[.int .i64 0, .int .i64 0, .int .i64 0]) ?_ 0 _ rfl; (with_reducible repeat (first | apply bn | apply bd | apply ba)); exact BK483.out) Try.underlying27 rfl (by kernel_rfl)) rfl ?_
 exact ⟨by first | rfl | (simp [errW_none, errW_some] <;> rfl) | (simp [*, errW_none, errW_some] <;> rfl), by repeat (first | (with_reducible first | exact HB.out | apply below_alloc | apply pw_below_drewN | apply below_drew1 | refine below_set ?_ GE481.out | refine below_set ?_ GE482.out | refine below_set ?_ GE483.out) | exact HB.out)⟩

/-! ### impl_JoinOf: function 47 -/
def impl_JoinOf.f (k : Nat) (a0 : Int) (a1_0 : Int) (a1_1 : Int) (a1_2 : Int) (a2_0 : Int) (a2_1 : Int) (a2_2 : Int) : Option (Int × Int × Int × Int) := (impl_areBalls.f k a0 (([(⟨a1_0, a1_1, a1_2⟩ : S27), (⟨a2_0, a2_1, a2_2⟩ : S27)] : List (S27)))).bind fun t494 => (if t494 = true then ((impl_join.f k a0 a1_0 a1_1 a1_2 a2_0 a2_1 a2_2).bind fun bt495 => (some (bt495.1, bt495.2.1, bt495.2.2, 0))) else (some (0, 0, 0, 1)))
theorem impl_JoinOf.mono : ∀ a0 a1 a2 a3 a4 a5 a6 k, LeO (impl_JoinOf.f k a0 a1 a2 a3 a4 a5 a6) (impl_JoinOf.f (k + 1) a0 a1 a2 a3 a4 a5 a6) := by
 intro a0 a1 a2 a3 a4 a5 a6 k
 unfold impl_JoinOf.f
 repeat' first
   | (with_reducible exact impl_areBalls.mono _ _ _)
   | (with_reducible exact impl_join.mono _ _ _ _ _ _ _ _)
   | (with_reducible exact LeO.refl _)
   | (with_reducible exact LeO.none _)
   | (with_reducible refine LeO.ite ?_ ?_)
   | (with_reducible refine LeO.bind ?_ (fun _ => ?_))
   | refine LeO.ite ?_ ?_
   | refine LeO.bind ?_ (fun _ => ?_)
set_option maxHeartbeats 8000000 in
set_option maxRecDepth 100000 in
theorem impl_JoinOf.calls (k : Nat) (a0 : Int) (a1_0 : Int) (a1_1 : Int) (a1_2 : Int) (a2_0 : Int) (a2_1 : Int) (a2_2 : Int) (r1 : Int) (r2 : Int) (r3 : Int) (r4 : Int) (w : World) (h : impl_JoinOf.f k a0 a1_0 a1_1 a1_2 a2_0 a2_1 a2_2 = some (r1, r2, r3, r4)) :
  Calls Try.prog 47 #[.int .i64 a0, .agg #[.int .i64 a1_0, .int .i64 a1_1, .int .i64 a1_2], .agg #[.int .i64 a2_0, .int .i64 a2_1, .int .i64 a2_2]] w fun e w' => e = .returned (.tuple #[.agg #[.int .i64 r1, .int .i64 r2, .int .i64 r3], .int .i64 r4]) ∧ Below w.heap.size w w' := by
 have hu27 := Try.underlying27
 have HB := Aside0.mk (Below.refl w.heap.size w)
 have H : ((impl_areBalls.f k a0 (([(⟨a1_0, a1_1, a1_2⟩ : S27), (⟨a2_0, a2_1, a2_2⟩ : S27)] : List (S27)))).bind fun t494 => (if t494 = true then ((impl_join.f k a0 a1_0 a1_1 a1_2 a2_0 a2_1 a2_2).bind fun bt495 => (some (bt495.1, bt495.2.1, bt495.2.2, 0))) else (some (0, 0, 0, 1)))) = some (r1, r2, r3, r4) := h
 clear h
 obtain ⟨y491, hy491⟩ : ∃ y_ : List (S27), y_ = (([(⟨a1_0, a1_1, a1_2⟩ : S27), (⟨a2_0, a2_1, a2_2⟩ : S27)] : List (S27))) := ⟨_, rfl⟩
 replace H : ((impl_areBalls.f k a0 y491).bind fun t494 => (if t494 = true then ((impl_join.f k a0 a1_0 a1_1 a1_2 a2_0 a2_1 a2_2).bind fun bt495 => (some (bt495.1, bt495.2.1, bt495.2.2, 0))) else (some (0, 0, 0, 1)))) = some (r1, r2, r3, r4) := by first | (rw [hy491]; with_reducible exact H) | (have H2_ := (Option.bind_some _ _).symm.trans H; rw [hy491]; with_reducible exact H2_) | (have H2_ := (Option.bind_some _ _).symm.trans H; with_reducible exact H2_) | with_reducible exact H | (rw [hy491]; exact H) | exact H
 have Ny491 := Aside0.mk hy491
 clear hy491
 replace H := Option.bind_eq_some_iff.mp H
 obtain ⟨t494, A40, H⟩ := H
 replace H : (if t494 = true then ((impl_join.f k a0 a1_0 a1_1 a1_2 a2_0 a2_1 a2_2).bind fun bt495 => (some (bt495.1, bt495.2.1, bt495.2.2, 0))) else (some (0, 0, 0, 1))) = some (r1, r2, r3, r4) := H
 have A4 := Aside0.mk A40
 clear A40
 by_cases c5 : t494 = true
 ·subst c5
  have H1 : ((impl_join.f k a0 a1_0 a1_1 a1_2 a2_0 a2_1 a2_2).bind fun bt495 => (some (bt495.1, bt495.2.1, bt495.2.2, 0))) = some (r1, r2, r3, r4) := by rw [if_pos rfl] at H; exact H
  clear H
  have H := H1
  clear H1
  replace H := Option.bind_eq_some_iff.mp H
  obtain ⟨⟨t495, t496, t497⟩, A60, H⟩ := H
  replace H : (some (t495, t496, t497, 0)) = some (r1, r2, r3, r4) := H
  have A6 := Aside0.mk A60
  clear A60
  simp only [Option.some.injEq, Prod.mk.injEq] at H
  obtain ⟨rfl, rfl, rfl, rfl⟩ := H
  go_enter Try.func47, Try.ntmps47
  go_wp2_with (first | ((with_reducible refine gate_dst (N := 4) rfl ?_); refine bx (N := 4) (cs := #[.int .i64 a1_0, .int .i64 a1_1, .int .i64 a1_2]) (t := 27) ?_; intro gb488 hg w7 hbox hb; have BK488 := Aside0.mk (hbox); have GW488 := sg hg; have GE488 := sg hg; replace HB := bs hb; clear hb hbox hg) | ((with_reducible refine gate_dst (N := 5) rfl ?_); refine bx (N := 5) (cs := #[.int .i64 a2_0, .int .i64 a2_1, .int .i64 a2_2]) (t := 27) ?_; intro gb489 hg w8 hbox hb; have BK489 := Aside0.mk (hbox); have GW489 := sg hg; have GE489 := sg hg; have NB488_489 := nl hg BK488; have NB489_488 := ng hg BK488; replace BK488 := bb BK488 hb; replace HB := bs hb; clear hb hbox hg) | ((with_reducible refine gate_dst (N := 6) rfl ?_); refine bx (N := 6) (cs := #[.int .i64 0, .int .i64 0, .int .i64 0]) (t := 27) ?_; intro gb490 hg w9 hbox hb; have BK490 := Aside0.mk (hbox); have GW490 := sg hg; have GE490 := sg hg; have NB488_490 := nl hg BK488; have NB490_488 := ng hg BK488; have NB489_490 := nl hg BK489; have NB490_489 := ng hg BK489; replace BK488 := bb BK488 hb; replace BK489 := bb BK489 hb; replace HB := bs hb; clear hb hbox hg; have hnb10 := NB488_489.out; have hnc10 := NB489_488.out; have hnb11 := NB488_490.out; have hnc11 := NB490_488.out; obtain ⟨hcz12_0, hcz12_1, hcz12_2, hfz12_0, hfz12_1, hfz12_2⟩ := c3 BK488; have hnb13 := NB489_490.out; have hnc13 := NB490_489.out; obtain ⟨hcz14_0, hcz14_1, hcz14_2, hfz14_0, hfz14_1, hfz14_2⟩ := c3 BK489) | ((with_reducible refine gate_dst (N := 11) rfl ?_); refine Kd.R_lit k27 _ 27 ?hg (N := 11) ?hd (xs := ([(⟨a1_0, a1_1, a1_2⟩ : S27), (⟨a2_0, a2_1, a2_2⟩ : S27)] : List (S27))) (inner := [.int .i64 a1_0, .int .i64 a1_1, .int .i64 a1_2, .int .i64 a2_0, .int .i64 a2_1, .int .i64 a2_2]) (ok := fun _ => True) (okp := fun _ => True) ?hr ?hp (fun _ hk => hk) trivial (Below.refl _ _) (Nat.le_refl _) (by simp) ?_; (case hd => rfl); (case hg => rfl); (case hr => first | (go_simp; done) | (go_simp; rfl)); (case hp => exact (Reps.c3 (show Kd.M k27 _ _ _ (⟨a1_0, a1_1, a1_2⟩ : S27) [.int .i64 a1_0, .int .i64 a1_1, .int .i64 a1_2] from (k27_mkM _ _ _ (⟨a1_0, a1_1, a1_2⟩ : S27) )) (Reps.c3 (show Kd.M k27 _ _ _ (⟨a2_0, a2_1, a2_2⟩ : S27) [.int .i64 a2_0, .int .i64 a2_1, .int .i64 a2_2] from (k27_mkM _ _ _ (⟨a2_0, a2_1, a2_2⟩ : S27) )) (Reps.none _ _)))); intro v492 w15 ho16 hb hg_ hnew_; clear hg_ hnew_; (first | rw [← Ny491.out] at ho16 | (simp only [Int.reduceToNat] at ho16; rw [← Ny491.out] at ho16)); have HO493 := Aside0.mk (Kd.R_lower (Kd.R_newB (Kd.R_newB (Kd.R_newB ho16 (g := gb488) (o := .cells #[.int .i64 a1_0, .int .i64 a1_1, .int .i64 a1_2] 27 (0, 0)) (be BK488)) (g := gb489) (o := .cells #[.int .i64 a2_0, .int .i64 a2_1, .int .i64 a2_2] 27 (0, 0)) (be BK489)) (g := gb490) (o := .cells #[.int .i64 0, .int .i64 0, .int .i64 0] 27 (0, 0)) (be BK490)) (below_size (by repeat (first | (with_reducible first | exact HB.out | apply below_alloc | apply pw_below_drewN | apply below_drew1 | refine below_set ?_ GE488.out | refine below_set ?_ GE489.out | refine below_set ?_ GE490.out) | exact HB.out)))); replace BK488 := bb BK488 hb; replace BK489 := bb BK489 hb; replace BK490 := bb BK490 hb; replace HB := bs hb; clear hb ho16; obtain ⟨Ao17, co17, eo17⟩ := Kd.R_slice HO493.out; subst eo17) | ((with_reducible refine gate_callee (f := 83) rfl ?_); refine g1 (some 12) Try.func83 #[.int .i64 a0, .slice Ao17 y491.length co17] ?_; (with_reducible refine (impl_areBalls.calls k a0 _ _ y491 true _ ?side1 ?side2 A4.out).mono ?_); (case side1 => repeat (first | exact (Kd.R_reads' HO493.out).2.2 | (with_reducible refine Kd.C_alloc ?_ _) | (with_reducible refine Kd.C_drewN ?_ _) | (with_reducible refine Kd.C_drew ?_))); (case side2 => exact (Kd.R_reads' HO493.out).2.1); rintro e w18 ⟨rfl, hb⟩; refine ⟨_, rfl, ?_⟩; replace HO493 := Aside0.mk (Kd.R_below (by (with_reducible repeat (first | apply Kd.R_alloc | apply Kd.R_drewN | apply Kd.R_drew)); exact HO493.out) hb); replace BK488 := bb BK488 hb; replace BK489 := bb BK489 hb; replace BK490 := bb BK490 hb; replace HB := bs hb; (try clear hb); (try clear hb2); (try clear hk); (try clear hi); obtain ⟨hcz19_0, hcz19_1, hcz19_2, hfz19_0, hfz19_1, hfz19_2⟩ := c3 BK488; obtain ⟨hcz20_0, hcz20_1, hcz20_2, hfz20_0, hfz20_1, hfz20_2⟩ := c3 BK489) | ((with_reducible refine gate_callee (f := 112) rfl ?_); refine g1 (some 18) Try.func112 #[.int .i64 a0, .agg #[.int .i64 a1_0, .int .i64 a1_1, .int .i64 a1_2], .agg #[.int .i64 a2_0, .int .i64 a2_1, .int .i64 a2_2]] ?_; (with_reducible refine (impl_join.calls k a0 a1_0 a1_1 a1_2 a2_0 a2_1 a2_2 t495 t496 t497 _ A6.out).mono ?_); rintro e w21 ⟨rfl, hb⟩; refine ⟨_, rfl, ?_⟩; replace HO493 := Aside0.mk (Kd.R_below (by (with_reducible repeat (first | apply Kd.R_alloc | apply Kd.R_drewN | apply Kd.R_drew)); exact HO493.out) hb); replace BK488 := bb BK488 hb; replace BK489 := bb BK489 hb; replace BK490 := bb BK490 hb; replace HB := bs hb; (try clear hb); (try clear hb2); (try clear hk); (try clear hi); obtain ⟨hcz22_0, hcz22_1, hcz22_2, hfz22_0, hfz22_1, hfz22_2⟩ := c3 BK490))
  refine bodyPost_ret (results_ct rfl _ _ gb490 27 #[.int .i64 t495, .int .i64 t496, .int .i64 t497] (0, 0) _ rfl (by (with_reducible repeat (first | apply bn | apply bd | apply ba)); refine blk_put (cs := #[.int .i64 t495, .int .i64 t496, .int .i64 0]) ?_ 2 _ rfl; (with_reducible repeat (first | apply bn | apply bd | apply ba)); refine blk_put (cs := #[.int .i64 t495, .int .i64 0, .int .i64 0]) ?_ 1 _ rfl; (with_reducible repeat (first | apply bn | apply bd | apply ba)); refine blk_put (cs := #[.int .i64 0, .int .i64 0, .int .i64 0]) ?_ 0 _ rfl; (with_reducible repeat (first | apply bn | apply bd | apply ba)); exact BK490.out) Try.underlying27 rfl (by kernel_rfl)) rfl ?_
  exact ⟨by first | rfl | (simp [errW_none, errW_some] <;> rfl) | (simp [*, errW_none, errW_some] <;> rfl), by repeat (first | (with_reducible first | exact HB.out | apply below_alloc | apply pw_below_drewN | apply below_drew1 | refine below_set ?_ GE488.out | refine below_set ?_ GE489.out | refine below_set ?_ GE490.out) | exact HB.out)⟩
 ·replace c5 := Bool.eq_false_iff.mpr c5
  subst c5
  have H1 : (some (0, 0, 0, 1)) = some (r1, r2, r3, r4) := by rw [if_neg (show ¬ (false = true) by decide)] at H; exact H
  clear H
  have H := H1
  clear H1
  simp only [Option.some.injEq, Prod.mk.injEq] at H
  obtain ⟨rfl, rfl, rfl, rfl⟩ := H
  go_enter Try.func47, Try.ntmps47
  go_wp2_with (first | ((with_reducible refine gate_dst (N := 4) rfl ?_); refine bx (N := 4) (cs := #[.int .i64 a1_0, .int .i64 a1_1, .int .i64 a1_2]) (t := 27) ?_; intro gb488 hg w23 hbox hb; have BK488 := Aside0.mk (hbox); have GW488 := sg hg; have GE488 := sg hg; replace HB := bs hb; clear hb hbox hg) | ((with_reducible refine gate_dst (N := 5) rfl ?_); refine bx (N := 5) (cs := #[.int .i64 a2_0, .int .i64 a2_1, .int .i64 a2_2]) (t := 27) ?_; intro gb489 hg w24 hbox hb; have BK489 := Aside0.mk (hbox); have GW489 := sg hg; have GE489 := sg hg; have NB488_489 := nl hg BK488; have NB489_488 := ng hg BK488; replace BK488 := bb BK488 hb; replace HB := bs hb; clear hb hbox hg) | ((with_reducible refine gate_dst (N := 6) rfl ?_); refine bx (N := 6) (cs := #[.int .i64 0, .int .i64 0, .int .i64 0]) (t := 27) ?_; intro gb490 hg w25 hbox hb; have BK490 := Aside0.mk (hbox); have GW490 := sg hg; have GE490 := sg hg; have NB488_490 := nl hg BK488; have NB490_488 := ng hg BK488; have NB489_490 := nl hg BK489; have NB490_489 := ng hg BK489; replace BK488 := bb BK488 hb; replace BK489 := bb BK489 hb; replace HB := bs hb; clear hb hbox hg; have hnb26 := NB488_489.out; have hnc26 := NB489_488.out; have hnb27 := NB488_490.out; have hnc27 := NB490_488.out; obtain ⟨hcz28_0, hcz28_1, hcz28_2, hfz28_0, hfz28_1, hfz28_2⟩ := c3 BK488; have hnb29 := NB489_490.out; have hnc29 := NB490_489.out; obtain ⟨hcz30_0, hcz30_1, hcz30_2, hfz30_0, hfz30_1, hfz30_2⟩ := c3 BK489) | ((with_reducible refine gate_dst (N := 11) rfl ?_); refine Kd.R_lit k27 _ 27 ?hg (N := 11) ?hd (xs := ([(⟨a1_0, a1_1, a1_2⟩ : S27), (⟨a2_0, a2_1, a2_2⟩ : S27)] : List (S27))) (inner := [.int .i64 a1_0, .int .i64 a1_1, .int .i64 a1_2, .int .i64 a2_0, .int .i64 a2_1, .int .i64 a2_2]) (ok := fun _ => True) (okp := fun _ => True) ?hr ?hp (fun _ hk => hk) trivial (Below.refl _ _) (Nat.le_refl _) (by simp) ?_; (case hd => rfl); (case hg => rfl); (case hr => first | (go_simp; done) | (go_simp; rfl)); (case hp => exact (Reps.c3 (show Kd.M k27 _ _ _ (⟨a1_0, a1_1, a1_2⟩ : S27) [.int .i64 a1_0, .int .i64 a1_1, .int .i64 a1_2] from (k27_mkM _ _ _ (⟨a1_0, a1_1, a1_2⟩ : S27) )) (Reps.c3 (show Kd.M k27 _ _ _ (⟨a2_0, a2_1, a2_2⟩ : S27) [.int .i64 a2_0, .int .i64 a2_1, .int .i64 a2_2] from (k27_mkM _ _ _ (⟨a2_0, a2_1, a2_2⟩ : S27) )) (Reps.none _ _)))); intro v492 w31 ho32 hb hg_ hnew_; clear hg_ hnew_; (first | rw [← Ny491.out] at ho32 | (simp only [Int.reduceToNat] at ho32; rw [← Ny491.out] at ho32)); have HO493 := Aside0.mk (Kd.R_lower (Kd.R_newB (Kd.R_newB (Kd.R_newB ho32 (g := gb488) (o := .cells #[.int .i64 a1_0, .int .i64 a1_1, .int .i64 a1_2] 27 (0, 0)) (be BK488)) (g := gb489) (o := .cells #[.int .i64 a2_0, .int .i64 a2_1, .int .i64 a2_2] 27 (0, 0)) (be BK489)) (g := gb490) (o := .cells #[.int .i64 0, .int .i64 0, .int .i64 0] 27 (0, 0)) (be BK490)) (below_size (by repeat (first | (with_reducible first | exact HB.out | apply below_alloc | apply pw_below_drewN | apply below_drew1 | refine below_set ?_ GE488.out | refine below_set ?_ GE489.out | refine below_set ?_ GE490.out) | exact HB.out)))); replace BK488 := bb BK488 hb; replace BK489 := bb BK489 hb; replace BK490 := bb BK490 hb; replace HB := bs hb; clear hb ho32; obtain ⟨Ao33, co33, eo33⟩ := Kd.R_slice HO493.out; subst eo33) | ((with_reducible refine gate_callee (f := 83) rfl ?_); refine g1 (some 12) Try.func83 #[.int .i64 a0, .slice Ao33 y491.length co33] ?_; (with_reducible refine (impl_areBalls.calls k a0 _ _ y491 false _ ?side1 ?side2 A4.out).mono ?_); (case side1 => repeat (first | exact (Kd.R_reads' HO493.out).2.2 | (with_reducible refine Kd.C_alloc ?_ _) | (with_reducible refine Kd.C_drewN ?_ _) | (with_reducible refine Kd.C_drew ?_))); (case side2 => exact (Kd.R_reads' HO493.out).2.1); rintro e w34 ⟨rfl, hb⟩; refine ⟨_, rfl, ?_⟩; replace HO493 := Aside0.mk (Kd.R_below (by (with_reducible repeat (first | apply Kd.R_alloc | apply Kd.R_drewN | apply Kd.R_drew)); exact HO493.out) hb); replace BK488 := bb BK488 hb; replace BK489 := bb BK489 hb; replace BK490 := bb BK490 hb; replace HB := bs hb; (try clear hb); (try clear hb2); (try clear hk); (try clear hi); obtain ⟨hcz35_0, hcz35_1, hcz35_2, hfz35_0, hfz35_1, hfz35_2⟩ := c3 BK490))
  refine bodyPost_ret (results_ct rfl _ _ gb490 27 #[.int .i64 0, .int .i64 0, .int .i64 0] (0, 0) _ rfl (by (with_reducible repeat (first | apply bn | apply bd | apply ba)); refine blk_put (cs := #[.int .i64 0, .int .i64 0, .int .i64 0]) ?_ 2 _ rfl; (with_reducible repeat (first | apply bn | apply bd | apply ba)); refine blk_put (cs := #[.int .i64 0, .int .i64 0, .int .i64 0]) ?_ 1 _ rfl; (with_reducible repeat (first | apply bn | apply bd | apply ba)); refine blk_put (cs := #[.int .i64 0, .int .i64 0, .int .i64 0]) ?_ 0 _ rfl; (with_reducible repeat (first | apply bn | apply bd | apply ba)); exact BK490.out) Try.underlying27 rfl (by kernel_rfl)) rfl ?_
  exact ⟨by first | rfl | (simp [errW_none, errW_some] <;> rfl) | (simp [*, errW_none, errW_some] <;> rfl), by repeat (first | (with_reducible first | exact HB.out | apply below_alloc | apply pw_below_drewN | apply below_drew1 | refine below_set ?_ GE488.out | refine below_set ?_ GE489.out | refine below_set ?_ GE490.out) | exact HB.out)⟩

end Go.Proofs.Ytpmepopagapeiaa.PFnTreeDistances

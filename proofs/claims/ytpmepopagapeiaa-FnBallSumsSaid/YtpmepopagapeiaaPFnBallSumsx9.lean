-- Printed by the kit's print and repaired by a program of this session.
import Derived.Test.YtpmepopagapeiaaPFnBallSumsx0
import Derived.Test.YtpmepopagapeiaaPFnBallSumsx2
import Derived.Test.YtpmepopagapeiaaPFnBallSumsx3
namespace Go.Proofs.Ytpmepopagapeiaa.PFnBallSums
open Go.RowKit Go.Proofs.YtpmepopagapeiaaW.PrintWords Go.Proofs.YtpmepopagapeiaaW.PrintLast Go.Proofs.YtpmepopagapeiaaW.PrintMore
attribute [local go_sem] max2_int min2_int max_two min_two max_three min_three max_four min_four   -- for this text's walks alone
set_option linter.unusedVariables false
set_option linter.unusedSimpArgs false

/-! ### spec_DrawMultiplyBall: function 25 -/
def spec_DrawMultiplyBall.f (k : Nat) (l0 : List Int) : Option (Int × Int × Int × Int × Int) := (spec_l01From.f k l0).bind fun bt329 => ((spec_l01Spoil.f k bt329.1 bt329.2.1 bt329.2.2).bind fun bt333 => ((spec_l01Next.f bt329.1 bt333.2.2.2.2.1 bt333.2.2.2.2.2 43).bind fun bt340 => ((spec_l01Pick.f bt329.1 bt340.2.1 bt340.2.2 (([0, 1, (-1), 2, (-2), wrap64 (bt340.1 - 21)] : List Int))).bind fun bt346 => (some (bt333.1, bt333.2.1, bt333.2.2.1, bt333.2.2.2.1, bt346.1)))))
theorem spec_DrawMultiplyBall.mono : ∀ a0 k, LeO (spec_DrawMultiplyBall.f k a0) (spec_DrawMultiplyBall.f (k + 1) a0) := by
 intro a0 k
 unfold spec_DrawMultiplyBall.f
 repeat' first
   | (with_reducible exact spec_l01From.mono _ _)
   | (with_reducible exact spec_l01Spoil.mono _ _ _ _)
   | (with_reducible exact LeO.refl _)
   | (with_reducible exact LeO.none _)
   | (with_reducible refine LeO.ite ?_ ?_)
   | (with_reducible refine LeO.bind ?_ (fun _ => ?_))
   | refine LeO.ite ?_ ?_
   | refine LeO.bind ?_ (fun _ => ?_)
def spec_DrawMultiplyBall.T3 : Bool × List (List Nat × List Nat) := (true, [([], []), ([], []), ([], []), ([], []), ([3], [3]), ([4], [4]), ([5], [5]), ([2, 6, 4], [2, 6]), ([0, 7, 0], [0]), ([1, 8, 0, 1, 8], [1]), ([7, 9, 0, 1, 2, 3, 4, 5, 6, 7, 8, 9], [7])])
def spec_DrawMultiplyBall.B3 : List Nat := [0, 0, 0, 0, 8, 24, 56, 124, 253, 511, 1023]
theorem spec_DrawMultiplyBall.tab3 : rtab .any (opsOf Try.f25 3) = spec_DrawMultiplyBall.T3 := by kernel_rfl
theorem spec_DrawMultiplyBall.bits3 : waitsOk spec_DrawMultiplyBall.T3.2 spec_DrawMultiplyBall.B3 = true := by kernel_rfl
set_option maxHeartbeats 8000000 in
set_option maxRecDepth 100000 in
theorem spec_DrawMultiplyBall.calls (k : Nat) (A0 : Option Addr) (c0 : Nat) (l0 : List Int) (r1 : Int) (r2 : Int) (r3 : Int) (r4 : Int) (r5 : Int) (w : World) (hr0 : Kd.C (Kd.int .u8) w A0 l0.length l0) (hc0 : l0.length ≤ c0) (h : spec_DrawMultiplyBall.f k l0 = some (r1, r2, r3, r4, r5)) :
  Calls Try.prog 25 #[.slice A0 l0.length c0] w fun e w' => e = .returned (.tuple #[.int .i64 r1, .agg #[.int .i64 r2, .int .i64 r3, .int .i64 r4], .int .i64 r5]) ∧ Below w.heap.size w w' := by
 have hu27 := Try.underlying27
 have HR0 := Aside0.mk hr0
 have HC0 := Aside0.mk hc0
 clear hr0 hc0
 have HB := Aside0.mk (Below.refl w.heap.size w)
 have H : ((spec_l01From.f k l0).bind fun bt329 => ((spec_l01Spoil.f k bt329.1 bt329.2.1 bt329.2.2).bind fun bt333 => ((spec_l01Next.f bt329.1 bt333.2.2.2.2.1 bt333.2.2.2.2.2 43).bind fun bt340 => ((spec_l01Pick.f bt329.1 bt340.2.1 bt340.2.2 (([0, 1, (-1), 2, (-2), wrap64 (bt340.1 - 21)] : List Int))).bind fun bt346 => (some (bt333.1, bt333.2.1, bt333.2.2.1, bt333.2.2.2.1, bt346.1)))))) = some (r1, r2, r3, r4, r5) := h
 clear h
 replace H := Option.bind_eq_some_iff.mp H
 obtain ⟨⟨t329, t330, t331⟩, A20, H⟩ := H
 replace H : ((spec_l01Spoil.f k t329 t330 t331).bind fun bt333 => ((spec_l01Next.f t329 bt333.2.2.2.2.1 bt333.2.2.2.2.2 43).bind fun bt340 => ((spec_l01Pick.f t329 bt340.2.1 bt340.2.2 (([0, 1, (-1), 2, (-2), wrap64 (bt340.1 - 21)] : List Int))).bind fun bt346 => (some (bt333.1, bt333.2.1, bt333.2.2.1, bt333.2.2.2.1, bt346.1))))) = some (r1, r2, r3, r4, r5) := H
 have A2 := Aside0.mk A20
 clear A20
 replace H := Option.bind_eq_some_iff.mp H
 obtain ⟨⟨t333, t334, t335, t336, t337, t338⟩, A30, H⟩ := H
 replace H : ((spec_l01Next.f t329 t337 t338 43).bind fun bt340 => ((spec_l01Pick.f t329 bt340.2.1 bt340.2.2 (([0, 1, (-1), 2, (-2), wrap64 (bt340.1 - 21)] : List Int))).bind fun bt346 => (some (t333, t334, t335, t336, bt346.1)))) = some (r1, r2, r3, r4, r5) := H
 have A3 := Aside0.mk A30
 clear A30
 replace H := Option.bind_eq_some_iff.mp H
 obtain ⟨⟨t340, t341, t342⟩, A40, H⟩ := H
 replace H : ((spec_l01Pick.f t329 t341 t342 (([0, 1, (-1), 2, (-2), wrap64 (t340 - 21)] : List Int))).bind fun bt346 => (some (t333, t334, t335, t336, bt346.1))) = some (r1, r2, r3, r4, r5) := H
 have A4 := Aside0.mk A40
 clear A40
 obtain ⟨y343, hy343⟩ : ∃ y_ : List Int, y_ = (([0, 1, (-1), 2, (-2), wrap64 (t340 - 21)] : List Int)) := ⟨_, rfl⟩
 replace H : ((spec_l01Pick.f t329 t341 t342 y343).bind fun bt346 => (some (t333, t334, t335, t336, bt346.1))) = some (r1, r2, r3, r4, r5) := by first | (rw [hy343]; with_reducible exact H) | (have H2_ := (Option.bind_some _ _).symm.trans H; rw [hy343]; with_reducible exact H2_) | (have H2_ := (Option.bind_some _ _).symm.trans H; with_reducible exact H2_) | with_reducible exact H | (rw [hy343]; exact H) | exact H
 have Ny343 := Aside0.mk hy343
 clear hy343
 replace H := Option.bind_eq_some_iff.mp H
 obtain ⟨⟨t346, t347, t348⟩, A50, H⟩ := H
 replace H : (some (t333, t334, t335, t336, t346)) = some (r1, r2, r3, r4, r5) := H
 have A5 := Aside0.mk A50
 clear A50
 simp only [Option.some.injEq, Prod.mk.injEq] at H
 obtain ⟨rfl, rfl, rfl, rfl, rfl⟩ := H
 go_enter Try.func25, Try.ntmps25
 try go_wp2_with (first | ((with_reducible refine gate_dst (N := 3) rfl ?_); refine bx (N := 3) (cs := #[.int .i64 0, .int .i64 0, .int .i64 0]) (t := 27) ?_; intro gb328 hg w6 hbox hb; have BK328 := Aside0.mk (hbox); have GW328 := sg hg; have GE328 := sg hg; replace HB := bs hb; clear hb hbox hg) | ((with_reducible refine gate_callee (f := 98) rfl ?_); refine g1 (some 9) Try.func98 #[.slice A0 l0.length c0] ?_; (with_reducible refine (spec_l01From.calls k _ _ l0 t329 t330 t331 w _ ?side1 ?side2 ?side3 A2.out).mono ?_); (case side1 => repeat (first | (with_reducible first | exact HB.out | apply below_alloc | apply pw_below_drewN | apply below_drew1 | refine below_set ?_ GE328.out) | exact HB.out)); (case side2 => exact HR0.out); (case side3 => exact HC0.out); rintro e w7 ⟨g332, rfl, hi, hb, hb2⟩; refine ⟨_, rfl, ?_⟩; have HI332 := Aside0.mk (hi); have NB332_328 := Aside0.mk (IsS127.ne_blk hi (blk_below (g := gb328) (o := .cells #[.int .i64 0, .int .i64 0, .int .i64 0] 27 (0, 0)) (be BK328) hb2) (by decide)); have NB328_332 := Aside0.mk (Ne.symm (IsS127.ne_blk hi (blk_below (g := gb328) (o := .cells #[.int .i64 0, .int .i64 0, .int .i64 0] 27 (0, 0)) (be BK328) hb2) (by decide))); replace BK328 := Aside0.mk (blk_below (g := gb328) (o := .cells #[.int .i64 0, .int .i64 0, .int .i64 0] 27 (0, 0)) (be BK328) hb2); replace HB := Aside0.mk (hb); (try clear hb); (try clear hb2); (try clear hk); (try clear hi)) | ((with_reducible refine gate_callee (f := 99) rfl ?_); refine g1 (some 12) Try.func99 #[.pointer (some ⟨g332, 0, none⟩)] ?_; (with_reducible refine (spec_l01Spoil.calls k g332 t329 t330 t331 t333 t334 t335 t336 t337 t338 w _ ?side1 ?side2 A3.out).mono ?_); (case side1 => repeat (first | (with_reducible first | exact HI332.out | apply IsS127.alloc | apply IsS127.drewN | apply IsS127.drew | apply IsS127.set_1 | apply IsS127.set_2 | refine IsS127.far ?_ NB332_328.out _) | exact HI332.out)); (case side2 => repeat (first | (with_reducible first | exact HB.out | apply below_alloc | apply pw_below_drewN | apply below_drew1 | refine below_set ?_ (IsS127.ge HI332.out) | refine below_set ?_ GE328.out) | exact HB.out)); rintro e w8 ⟨rfl, hi, hb, hk⟩; refine ⟨_, rfl, ?_⟩; replace BK328 := Aside0.mk (KeepBut.blk hk (g' := gb328) (o := .cells #[.int .i64 0, .int .i64 0, .int .i64 0] 27 (0, 0)) (be BK328) NB328_332.out (by simp)); replace HI332 := Aside0.mk (hi); replace HB := Aside0.mk (hb); (try clear hb); (try clear hb2); (try clear hk); (try clear hi)) | ((with_reducible refine gate_dst (N := 7) rfl ?_); refine bx (N := 7) (cs := #[.int .i64 0, .int .i64 0, .int .i64 0]) (t := 27) ?_; intro gb339 hg w9 hbox hb; have BK339 := Aside0.mk (hbox); have GW339 := Aside0.mk ((by rw [hg]; exact (below_size (by repeat (first | (with_reducible first | exact HB.out | apply below_alloc | apply pw_below_drewN | apply below_drew1 | refine below_set ?_ (IsS127.ge HI332.out) | refine below_set ?_ GE328.out) | exact HB.out))) : w.heap.size ≤ gb339)); have GE339 := Aside0.mk ((by rw [hg]; exact (below_size (by repeat (first | (with_reducible first | exact HB.out | apply below_alloc | apply pw_below_drewN | apply below_drew1 | refine below_set ?_ (IsS127.ge HI332.out) | refine below_set ?_ GE328.out) | exact HB.out))) : w.heap.size ≤ gb339)); have NB328_339 := nl hg BK328; have NB339_328 := ng hg BK328; have NB332_339 := Aside0.mk ((by rw [hg]; exact Nat.ne_of_lt (IsS127.lt (show IsS127 w _ g332 t329 t337 t338 from by repeat (first | (with_reducible first | exact HI332.out | apply IsS127.alloc | apply IsS127.drewN | apply IsS127.drew | apply IsS127.set_1 | apply IsS127.set_2 | refine IsS127.far ?_ NB332_328.out _) | exact HI332.out))) : g332 ≠ gb339)); have NB339_332 := Aside0.mk ((by rw [hg]; exact Nat.ne_of_gt (IsS127.lt (show IsS127 w _ g332 t329 t337 t338 from by repeat (first | (with_reducible first | exact HI332.out | apply IsS127.alloc | apply IsS127.drewN | apply IsS127.drew | apply IsS127.set_1 | apply IsS127.set_2 | refine IsS127.far ?_ NB332_328.out _) | exact HI332.out))) : gb339 ≠ g332)); replace BK328 := bb BK328 hb; replace HB := Aside0.mk (below_step (by repeat (first | (with_reducible first | exact HB.out | apply below_alloc | apply pw_below_drewN | apply below_drew1 | refine below_set ?_ (IsS127.ge HI332.out) | refine below_set ?_ GE328.out) | exact HB.out)) hb); replace HI332 := Aside0.mk (IsS127.below (by repeat (first | (with_reducible first | exact HI332.out | apply IsS127.alloc | apply IsS127.drewN | apply IsS127.drew | apply IsS127.set_1 | apply IsS127.set_2 | refine IsS127.far ?_ NB332_328.out _) | exact HI332.out)) hb); clear hb hbox hg; have hnb10 := NB339_328.out; have hnc10 := NB328_339.out; have hnb11 := NB339_332.out; have hnc11 := NB332_339.out; obtain ⟨hcz12_0, hcz12_1, hcz12_2, hfz12_0, hfz12_1, hfz12_2⟩ := c3 BK339))
 have n0_ : Aside0 ((((w9.setCell ⟨gb339, 0, none⟩ (.int .i64 t334)).setCell ⟨gb339, 1, none⟩ (.int .i64 t335)).setCell ⟨gb339, 2, none⟩ (.int .i64 t336)).heap[gb328]? = some (.cells #[.int .i64 0, .int .i64 0, .int .i64 0] 27 (0, 0))) := ⟨by (with_reducible repeat (first | apply bn | apply bd | apply ba)); refine blk_far ?_ NB328_339.out _; (with_reducible repeat (first | apply bn | apply bd | apply ba)); refine blk_far ?_ NB328_339.out _; (with_reducible repeat (first | apply bn | apply bd | apply ba)); refine blk_far ?_ NB328_339.out _; (with_reducible repeat (first | apply bn | apply bd | apply ba)); exact BK328.out⟩
 have n1_ : Aside0 ((((w9.setCell ⟨gb339, 0, none⟩ (.int .i64 t334)).setCell ⟨gb339, 1, none⟩ (.int .i64 t335)).setCell ⟨gb339, 2, none⟩ (.int .i64 t336)).heap[gb339]? = some (.cells #[.int .i64 t334, .int .i64 t335, .int .i64 t336] 27 (0, 0))) := ⟨by (with_reducible repeat (first | apply bn | apply bd | apply ba)); refine blk_put (cs := #[.int .i64 t334, .int .i64 t335, .int .i64 0]) ?_ 2 _ rfl; (with_reducible repeat (first | apply bn | apply bd | apply ba)); refine blk_put (cs := #[.int .i64 t334, .int .i64 0, .int .i64 0]) ?_ 1 _ rfl; (with_reducible repeat (first | apply bn | apply bd | apply ba)); refine blk_put (cs := #[.int .i64 0, .int .i64 0, .int .i64 0]) ?_ 0 _ rfl; (with_reducible repeat (first | apply bn | apply bd | apply ba)); exact BK339.out⟩
 have n2_ : Aside0 (IsS127 w (((w9.setCell ⟨gb339, 0, none⟩ (.int .i64 t334)).setCell ⟨gb339, 1, none⟩ (.int .i64 t335)).setCell ⟨gb339, 2, none⟩ (.int .i64 t336)) g332 t329 t337 t338) := ⟨by repeat (first | (with_reducible first | exact HI332.out | apply IsS127.alloc | apply IsS127.drewN | apply IsS127.drew | apply IsS127.set_1 | apply IsS127.set_2 | refine IsS127.far ?_ NB332_328.out _ | refine IsS127.far ?_ NB332_339.out _) | exact HI332.out)⟩
 have n3_ : Aside0 (Below w.heap.size w (((w9.setCell ⟨gb339, 0, none⟩ (.int .i64 t334)).setCell ⟨gb339, 1, none⟩ (.int .i64 t335)).setCell ⟨gb339, 2, none⟩ (.int .i64 t336))) := ⟨by repeat (first | (with_reducible first | exact HB.out | apply below_alloc | apply pw_below_drewN | apply below_drew1 | refine below_set ?_ (IsS127.ge HI332.out) | refine below_set ?_ GE328.out | refine below_set ?_ GE339.out) | exact HB.out)⟩
 (try clear BK328)
 (try clear BK339)
 (try clear HI332)
 (try clear HB)
 generalize (((w9.setCell ⟨gb339, 0, none⟩ (.int .i64 t334)).setCell ⟨gb339, 1, none⟩ (.int .i64 t335)).setCell ⟨gb339, 2, none⟩ (.int .i64 t336)) = w13 at n0_ n1_ n2_ n3_ ⊢
 have BK328 := n0_
 have BK339 := n1_
 have HI332 := n2_
 have HB := n3_
 clear n0_ n1_ n2_ n3_
 have n0_ := Aside0.mk (blk_drew BK328.out)
 have n1_ := Aside0.mk (blk_drew BK339.out)
 have n2_ := Aside0.mk (IsS127.drew HI332.out)
 have n3_ := Aside0.mk (below_drew1 HB.out)
 clear BK328
 clear BK339
 clear HI332
 clear HB
 have BK328 := n0_
 have BK339 := n1_
 have HI332 := n2_
 have HB := n3_
 clear n0_ n1_ n2_ n3_
 refine start_ (n := 11) (S := fun w' => w'.cell? ⟨gb339, 0, none⟩ = some (.int .i64 t334) ∧ w'.cell? ⟨gb339, 1, none⟩ = some (.int .i64 t335) ∧ w'.cell? ⟨gb339, 2, none⟩ = some (.int .i64 t336)) (ds := []) #[false, false, false, false, false, false, false, false, false, false, false] (by kernel_rfl) rfl rfl ⟨(blk_cell BK339.out 0).trans rfl, (blk_cell BK339.out 1).trans rfl, (blk_cell BK339.out 2).trans rfl⟩ (fun hHeld => ?_); refine with_tabW spec_DrawMultiplyBall.tab3 spec_DrawMultiplyBall.bits3 (fun HT_ HW_ => ?_)
 generalize w13.drew = w14 at BK328 BK339 HI332 HB hHeld ⊢
 refine pu 0 (some 15) #[true, false, false, false, false, false, false, false, false, false, false] HT_ ?_
 refine pu 2 (some 17) #[true, false, true, false, false, false, false, false, false, false, false] HT_ ?_
 refine pu 3 (some 18) #[true, false, true, true, false, false, false, false, false, false, false] HT_ ?_
 refine take_ (i := 1) (N := some 16) (v := ?_) (a' := ?_) #[true, true, true, true, false, false, false, false, false, false, false] rfl rfl (take_ofW HT_.out HW_.out (by kernel_rfl)) (fun _ _ _ h => h) (Or.inl ⟨by rfl, ?_⟩) hHeld ?_ ?_
 rotate_left
 ·rintro w' ⟨s0, s1, s2⟩
  go_simp
  with_reducible rfl
 rotate_left
 ·simp only [Act.put, List.setIfInBounds_toArray, List.set_cons_zero, List.set_cons_succ, i64_w, i32_w]
  rfl
 refine one_ (i := 4) (N := some 19) #[true, true, true, true, true, false, false, false, false, false, false] rfl rfl (one_of HT_.out (by kernel_rfl)) (by decide) (fun K hK => ?_)
 refine goes_ Try.func101 (by kernel_rfl) rfl #[.pointer (some ⟨g332, 0, none⟩), .int .i64 43] (by rfl) rfl rfl (by (try simp only [List.map_toArray, List.map_cons, List.map_nil]); first | done | rfl | (simp only [List.length_drop, List.length_take]; rfl)) ?_
 with_reducible refine (spec_l01Next.calls g332 t329 t337 t338 43 t340 t341 t342 w _ ?side1 ?side2 A4.out).mono ?_
 (case side1 => repeat (first | (with_reducible first | exact HI332.out | apply IsS127.alloc | apply IsS127.drewN | apply IsS127.drew | apply IsS127.set_1 | apply IsS127.set_2 | refine IsS127.far ?_ NB332_328.out _ | refine IsS127.far ?_ NB332_339.out _) | exact HI332.out))
 (case side2 => repeat (first | (with_reducible first | exact HB.out | apply below_alloc | apply pw_below_drewN | apply below_drew1 | refine below_set ?_ (IsS127.ge HI332.out) | refine below_set ?_ GE328.out | refine below_set ?_ GE339.out) | exact HB.out))
 rintro e w15 ⟨rfl, hi, hb, hk⟩
 refine ⟨_, rfl, ?_⟩
 have n0_ := Aside0.mk (KeepBut.blk hk (g' := gb328) (o := .cells #[.int .i64 0, .int .i64 0, .int .i64 0] 27 (0, 0)) (be BK328) NB328_332.out (by simp))
 have n1_ := Aside0.mk (KeepBut.blk hk (g' := gb339) (o := .cells #[.int .i64 t334, .int .i64 t335, .int .i64 t336] 27 (0, 0)) (be BK339) NB339_332.out (by simp))
 have n2_ := Aside0.mk (hb)
 have n3_ := Aside0.mk (hi)
 clear BK328
 clear BK339
 clear HB
 clear HI332
 have BK328 := n0_
 have BK339 := n1_
 have HB := n2_
 have HI332 := n3_
 clear n0_ n1_ n2_ n3_
 (try clear hb)
 (try clear hb2)
 (try clear hk)
 (try clear hi)
 refine hK.out _ _ ⟨(blk_cell BK339.out 0).trans rfl, (blk_cell BK339.out 1).trans rfl, (blk_cell BK339.out 2).trans rfl⟩ (fun hHeld => ?_)
 clear hK K
 refine norm_ (a' := ?_) ?_ ?_
 rotate_left
 ·show Act.put _ (some 19) _ = _
  simp only [Act.put, List.setIfInBounds_toArray, List.set_cons_zero, List.set_cons_succ, i64_w, i32_w]
  rfl
 refine pu 5 (some 20) #[true, true, true, true, true, true, false, false, false, false, false] HT_ ?_
 refine one_ (i := 6) (N := some 21) #[true, true, true, true, true, true, true, false, false, false, false] rfl rfl (one_of HT_.out (by kernel_rfl)) (by decide) (fun K hK => ?_)
 refine Kd.R_lit_step (Kd.int .i64) _ 2 ?hg (N := 21) ?hd (xs := ([0, 1, (-1), 2, (-2), wrap64 (t340 - 21)] : List Int)) (inner := [.int .i64 0, .int .i64 1, .int .i64 (-1), .int .i64 2, .int .i64 (-2), .int .i64 (wrap64 (t340 - 21))]) (ok := fun _ => True) (okp := fun _ => True) ?hr ?hp (fun _ hk => hk) trivial (Below.refl _ _) (Nat.le_refl _) (by simp) ?_; (case hd => rfl); (case hg => rfl); (case hr => first | (go_simp; done) | (go_simp; rfl)); (case hp => exact (Reps.one (show Kd.M (Kd.int .i64) _ _ _ 0 [.int .i64 0] from rfl) (Reps.one (show Kd.M (Kd.int .i64) _ _ _ 1 [.int .i64 1] from rfl) (Reps.one (show Kd.M (Kd.int .i64) _ _ _ (-1) [.int .i64 (-1)] from rfl) (Reps.one (show Kd.M (Kd.int .i64) _ _ _ 2 [.int .i64 2] from rfl) (Reps.one (show Kd.M (Kd.int .i64) _ _ _ (-2) [.int .i64 (-2)] from rfl) (Reps.one (show Kd.M (Kd.int .i64) _ _ _ (wrap64 (t340 - 21)) [.int .i64 (wrap64 (t340 - 21))] from rfl) (Reps.none _ _))))))))
 intro v344 w16 ho17 hb hg_ hnew_
 clear hg_ hnew_
 (first | rw [← Ny343.out] at ho17 | (simp only [Int.reduceToNat] at ho17; rw [← Ny343.out] at ho17))
 have n0_ := Aside0.mk (Kd.R_lower ho17 (below_size (by repeat (first | (with_reducible first | exact HB.out | apply below_alloc | apply pw_below_drewN | apply below_drew1 | refine below_set ?_ (IsS127.ge HI332.out) | refine below_set ?_ GE328.out | refine below_set ?_ GE339.out) | exact HB.out))))
 have n1_ := bb BK328 hb
 have n2_ := Aside0.mk (IsS127.below (by repeat (first | (with_reducible first | exact HI332.out | apply IsS127.alloc | apply IsS127.drewN | apply IsS127.drew | apply IsS127.set_1 | apply IsS127.set_2 | refine IsS127.far ?_ NB332_328.out _ | refine IsS127.far ?_ NB332_339.out _) | exact HI332.out)) hb)
 have n3_ := bb BK339 hb
 have n4_ := Aside0.mk (below_step (by repeat (first | (with_reducible first | exact HB.out | apply below_alloc | apply pw_below_drewN | apply below_drew1 | refine below_set ?_ (IsS127.ge HI332.out) | refine below_set ?_ GE328.out | refine below_set ?_ GE339.out) | exact HB.out)) hb)
 clear BK328
 clear HI332
 clear BK339
 clear HB
 have HO345 := n0_
 have BK328 := n1_
 have HI332 := n2_
 have BK339 := n3_
 have HB := n4_
 clear n0_ n1_ n2_ n3_ n4_
 clear hb ho17
 obtain ⟨Ao18, co18, eo18⟩ := Kd.R_slice HO345.out
 (first | subst eo18 | (injection eo18 with f1_ f2_ f3_; have f4_ := f1_.symm; have f5_ := f3_.symm; clear f1_ f2_ f3_; subst f4_; subst f5_))
 refine hK.out _ _ ⟨(blk_cell BK339.out 0).trans rfl, (blk_cell BK339.out 1).trans rfl, (blk_cell BK339.out 2).trans rfl⟩ (fun hHeld => ?_)
 clear hK K
 refine norm_ (a' := ?_) ?_ ?_
 rotate_left
 ·show Act.put _ (some 21) _ = _
  simp only [Act.put, List.setIfInBounds_toArray, List.set_cons_zero, List.set_cons_succ, i64_w, i32_w]
  rfl
 refine one_ (i := 7) (N := some 22) #[true, true, true, true, true, true, true, true, false, false, false] rfl rfl (one_of HT_.out (by kernel_rfl)) (by decide) (fun K hK => ?_)
 refine goes_ Try.func100 (by kernel_rfl) rfl #[.pointer (some ⟨g332, 0, none⟩), .slice Ao18 y343.length co18] (by rfl) rfl rfl (by (try simp only [List.map_toArray, List.map_cons, List.map_nil]); first | done | rfl | (simp only [List.length_drop, List.length_take]; rfl)) ?_
 with_reducible refine (spec_l01Pick.calls g332 t329 t341 t342 _ _ y343 t346 t347 t348 w _ ?side1 ?side2 ?side3 ?side4 ?side5 A5.out).mono ?_
 (case side1 => repeat (first | (with_reducible first | exact HI332.out | apply IsS127.alloc | apply IsS127.drewN | apply IsS127.drew | apply IsS127.set_1 | apply IsS127.set_2 | refine IsS127.far ?_ NB332_328.out _ | refine IsS127.far ?_ NB332_339.out _) | exact HI332.out))
 (case side2 => repeat (first | (with_reducible first | exact HB.out | apply below_alloc | apply pw_below_drewN | apply below_drew1 | refine below_set ?_ (IsS127.ge HI332.out) | refine below_set ?_ GE328.out | refine below_set ?_ GE339.out) | exact HB.out))
 (case side3 => repeat (first | exact (Kd.R_reads' HO345.out).2.2 | (with_reducible refine Kd.C_alloc ?_ _) | (with_reducible refine Kd.C_drewN ?_ _) | (with_reducible refine Kd.C_drew ?_)))
 (case side4 => exact (Kd.R_reads' HO345.out).2.1)
 (case side5 => exact far_slice (IsS127.own_ne HI332.out HO345.out (by decide)))
 rintro e w19 ⟨rfl, hi, hb, hk⟩
 refine ⟨_, rfl, ?_⟩
 have n0_ := Aside0.mk (KeepBut.blk hk (g' := gb328) (o := .cells #[.int .i64 0, .int .i64 0, .int .i64 0] 27 (0, 0)) (be BK328) NB328_332.out (by simp))
 have n1_ := Aside0.mk (KeepBut.blk hk (g' := gb339) (o := .cells #[.int .i64 t334, .int .i64 t335, .int .i64 t336] 27 (0, 0)) (be BK339) NB339_332.out (by simp))
 have n2_ := Aside0.mk (Kd.R_mono (Kd.R_keep (IsS127.apart (show IsS127 w _ g332 t329 t341 t342 from by repeat (first | (with_reducible first | exact HI332.out | apply IsS127.alloc | apply IsS127.drewN | apply IsS127.drew | apply IsS127.set_1 | apply IsS127.set_2 | refine IsS127.far ?_ NB332_328.out _ | refine IsS127.far ?_ NB332_339.out _) | exact HI332.out)) (by (with_reducible repeat (first | apply Kd.R_alloc | apply Kd.R_drewN | apply Kd.R_drew)); exact HO345.out) (by decide)) hk (fun _ h => h.2)) (fun _ h => h.1))
 have n3_ := Aside0.mk (hb)
 have n4_ := Aside0.mk (hi)
 clear BK328
 clear BK339
 clear HO345
 clear HB
 clear HI332
 have BK328 := n0_
 have BK339 := n1_
 have HO345 := n2_
 have HB := n3_
 have HI332 := n4_
 clear n0_ n1_ n2_ n3_ n4_
 (try clear hb)
 (try clear hb2)
 (try clear hk)
 (try clear hi)
 refine hK.out _ _ ⟨(blk_cell BK339.out 0).trans rfl, (blk_cell BK339.out 1).trans rfl, (blk_cell BK339.out 2).trans rfl⟩ (fun hHeld => ?_)
 clear hK K
 refine norm_ (a' := ?_) ?_ ?_
 rotate_left
 ·show Act.put _ (some 22) _ = _
  simp only [Act.put, List.setIfInBounds_toArray, List.set_cons_zero, List.set_cons_succ, i64_w, i32_w]
  rfl
 refine pu 8 (some 2) #[true, true, true, true, true, true, true, true, true, false, false] HT_ ?_
 refine one_ (i := 9) (N := none) #[true, true, true, true, true, true, true, true, true, true, false] rfl rfl (one_of HT_.out (by kernel_rfl)) (by decide) (fun K hK => ?_)
 have hs20 : w19.cell? ⟨gb328, 0, none⟩ = some (.int .i64 0) := (blk_cell BK328.out 0).trans rfl
 have hfs20 := blk_frozen BK328.out 0
 have hns20_1 := NB339_328.out
 have hms20_1 := NB328_339.out
 have hs21 : w19.cell? ⟨gb328, 1, none⟩ = some (.int .i64 0) := (blk_cell BK328.out 1).trans rfl
 have hfs21 := blk_frozen BK328.out 1
 have hns21_1 := NB339_328.out
 have hms21_1 := NB328_339.out
 have hs22 : w19.cell? ⟨gb328, 2, none⟩ = some (.int .i64 0) := (blk_cell BK328.out 2).trans rfl
 have hfs22 := blk_frozen BK328.out 2
 have hns22_1 := NB339_328.out
 have hms22_1 := NB328_339.out
 refine skip_ (w1 := ?_) (by rfl) rfl ?_ ?_
 rotate_left
 ·go_simp
  rfl
 refine hK.out _ _ ⟨((cell_far (p := ⟨gb328, _, none⟩) NB339_328.out _).trans (((cell_far (p := ⟨gb328, _, none⟩) NB339_328.out _).trans (((cell_far (p := ⟨gb328, _, none⟩) NB339_328.out _).trans (hHeld.1)))))), ((cell_far (p := ⟨gb328, _, none⟩) NB339_328.out _).trans (((cell_far (p := ⟨gb328, _, none⟩) NB339_328.out _).trans (((cell_far (p := ⟨gb328, _, none⟩) NB339_328.out _).trans (hHeld.2.1)))))), ((cell_far (p := ⟨gb328, _, none⟩) NB339_328.out _).trans (((cell_far (p := ⟨gb328, _, none⟩) NB339_328.out _).trans (((cell_far (p := ⟨gb328, _, none⟩) NB339_328.out _).trans (hHeld.2.2))))))⟩ (fun hHeld => ?_)
 clear hK K
 refine pu 10 (some 4) #[true, true, true, true, true, true, true, true, true, true, true] HT_ ?_
 refine done_ (done_of HT_.out (by kernel_rfl)) ?_
 try go_wp2
 refine bodyPost_ret (results_list (rs := [.tmp 2, .cell 3 27, .tmp 4]) rfl (by simp) (.tmp (.cell gb328 27 #[.int .i64 t334, .int .i64 t335, .int .i64 t336] (0, 0) _ rfl (by (with_reducible repeat (first | apply bn | apply bd | apply ba)); refine blk_put (cs := #[.int .i64 t334, .int .i64 t335, .int .i64 0]) ?_ 2 _ rfl; (with_reducible repeat (first | apply bn | apply bd | apply ba)); refine blk_put (cs := #[.int .i64 t334, .int .i64 0, .int .i64 0]) ?_ 1 _ rfl; (with_reducible repeat (first | apply bn | apply bd | apply ba)); refine blk_put (cs := #[.int .i64 0, .int .i64 0, .int .i64 0]) ?_ 0 _ rfl; (with_reducible repeat (first | apply bn | apply bd | apply ba)); exact BK328.out) Try.underlying27 rfl (by kernel_rfl) (.tmp .nil)))) rfl ?_
 exact ⟨by first | rfl | (simp [errW_none, errW_some] <;> rfl) | (simp [*, errW_none, errW_some] <;> rfl), by repeat (first | (with_reducible first | exact HB.out | apply below_alloc | apply pw_below_drewN | apply below_drew1 | refine below_set ?_ (IsS127.ge HI332.out) | refine below_set ?_ GE328.out | refine below_set ?_ GE339.out) | exact HB.out)⟩

end Go.Proofs.Ytpmepopagapeiaa.PFnBallSums

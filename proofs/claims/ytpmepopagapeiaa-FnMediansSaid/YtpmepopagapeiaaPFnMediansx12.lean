-- Printed by the kit's print and repaired by a program of this session.
import Derived.Test.YtpmepopagapeiaaPFnMediansx0
import Derived.Test.YtpmepopagapeiaaPFnMediansx6
import Derived.Test.YtpmepopagapeiaaPFnMediansx7
import Derived.Test.YtpmepopagapeiaaPFnMediansx9
import Derived.Test.YtpmepopagapeiaaPFnMediansx10
import Derived.Test.YtpmepopagapeiaaPFnMediansx11
namespace Go.Proofs.Ytpmepopagapeiaa.PFnMedians
open Go.RowKit Go.Proofs.YtpmepopagapeiaaW.PrintWords Go.Proofs.YtpmepopagapeiaaW.PrintLast Go.Proofs.YtpmepopagapeiaaW.PrintMore
attribute [local go_sem] max2_int min2_int max_two min_two max_three min_three max_four min_four
set_option linter.unusedVariables false
set_option linter.unusedSimpArgs false

/-! ### spec_DrawMedianOf: function 51 -/
def spec_DrawMedianOf.f (k : Nat) (l0 : List Int) : Option (Int × Int × Int × Int × Int × Int × Int × Int × Int × Int) := (spec_l01From.f k l0).bind fun bt467 => ((spec_l02Two.f k bt467.1 bt467.2.1 bt467.2.2).bind fun bt471 => ((spec_l02Fine.f bt471.1).bind fun t482 => ((spec_l01Draw.f k bt467.1 bt471.2.2.2.2.2.2.2.1 bt471.2.2.2.2.2.2.2.2 t482).bind fun bt483 => (some (bt471.1, bt471.2.1, bt471.2.2.1, bt471.2.2.2.1, bt471.2.2.2.2.1, bt471.2.2.2.2.2.1, bt471.2.2.2.2.2.2.1, bt483.1, bt483.2.1, bt483.2.2.1)))))
def spec_DrawMedianOf.T3 : Bool × List (List Nat × List Nat) := (true, [([], []), ([], []), ([], []), ([], []), ([], []), ([4], [4]), ([3, 5, 5], [3, 5]), ([0, 6, 0], [0]), ([1, 7, 0, 1, 7], [1]), ([2, 8, 0, 1, 2, 7, 8], [2]), ([6, 9, 0, 1, 2, 3, 4, 5, 6, 7, 8, 9], [6])])
def spec_DrawMedianOf.B3 : List Nat := [0, 0, 0, 0, 0, 16, 56, 121, 251, 511, 1023]
theorem spec_DrawMedianOf.tab3 : rtab .any (opsOf Try.f51 3) = spec_DrawMedianOf.T3 := by kernel_rfl
theorem spec_DrawMedianOf.bits3 : waitsOk spec_DrawMedianOf.T3.2 spec_DrawMedianOf.B3 = true := by kernel_rfl
set_option maxHeartbeats 8000000 in
set_option maxRecDepth 100000 in
theorem spec_DrawMedianOf.calls (k : Nat) (A0 : Option Addr) (c0 : Nat) (l0 : List Int) (r1 : Int) (r2 : Int) (r3 : Int) (r4 : Int) (r5 : Int) (r6 : Int) (r7 : Int) (r8 : Int) (r9 : Int) (r10 : Int) (w : World) (hr0 : Kd.C (Kd.int .u8) w A0 l0.length l0) (hc0 : l0.length ≤ c0) (h : spec_DrawMedianOf.f k l0 = some (r1, r2, r3, r4, r5, r6, r7, r8, r9, r10)) :
  Calls Try.prog 51 #[.slice A0 l0.length c0] w fun e w' => e = .returned (.tuple #[.int .i64 r1, .agg #[.int .i64 r2, .int .i64 r3, .int .i64 r4], .agg #[.int .i64 r5, .int .i64 r6, .int .i64 r7], .agg #[.int .i64 r8, .int .i64 r9, .int .i64 r10]]) ∧ Below w.heap.size w w' := by
 have hu27 := Try.underlying27
 have HR0 := Aside0.mk hr0
 have HC0 := Aside0.mk hc0
 clear hr0 hc0
 have HB := Aside0.mk (Below.refl w.heap.size w)
 unfold spec_DrawMedianOf.f at h
 have H := h
 clear h
 replace H := zi H
 obtain ⟨⟨t467, t468, t469⟩, A2, H⟩ := H
 try dsimp only at H
 replace H := zi H
 obtain ⟨⟨t471, t472, t473, t474, t475, t476, t477, t478, t479⟩, A3, H⟩ := H
 try dsimp only at H
 replace H := zi H
 obtain ⟨t482, A4, H⟩ := H
 try dsimp only at H
 replace H := zi H
 obtain ⟨⟨t483, t484, t485, t486, t487⟩, A5, H⟩ := H
 try dsimp only at H
 simp only [Option.some.injEq, Prod.mk.injEq] at H
 obtain ⟨rfl, rfl, rfl, rfl, rfl, rfl, rfl, rfl, rfl, rfl⟩ := H
 go_enter Try.func51, Try.ntmps51
 try go_wp2_with (first | ((with_reducible refine zg 3 rfl ?_); refine z3 3 27 0 0 0 ?_; intro gb464 hg w6 BK464 hb; have GW464 := sg hg; replace HB := bs hb; clear hb hg) | ((with_reducible refine zg 4 rfl ?_); refine z3 4 27 0 0 0 ?_; intro gb465 hg w7 BK465 hb; have GW465 := sg hg; have NB464_465 := nl hg BK464; replace BK464 := bb BK464 hb; replace HB := bs hb; clear hb hg) | ((with_reducible refine zg 5 rfl ?_); refine z3 5 27 0 0 0 ?_; intro gb466 hg w8 BK466 hb; have GW466 := sg hg; have NB464_466 := nl hg BK464; have NB465_466 := nl hg BK465; replace BK464 := bb BK464 hb; replace BK465 := bb BK465 hb; replace HB := bs hb; clear hb hg) | ((with_reducible refine zf 98 rfl ?_); refine g1 (some 11) Try.func98 #[.slice A0 l0.length c0] ?_; (with_reducible refine (spec_l01From.calls k _ _ l0 t467 t468 t469 w _ ?side1 ?side2 ?side3 A2.out).mono ?_); (case side1 => exact bl); (case side2 => exact HR0.out); (case side3 => exact HC0.out); rintro e w9 ⟨g470, rfl, hi, hb, hb2⟩; refine ⟨_, rfl, ?_⟩; have HI470 := Aside0.mk (hi); have NB470_464 := Aside0.mk (IsS127.ne_blk hi (blk_below (g := gb464) (o := .cells #[.int .i64 0, .int .i64 0, .int .i64 0] 27 (0, 0)) (be BK464) hb2) (by decide)); have NB464_470 := Aside0.mk (Ne.symm (IsS127.ne_blk hi (blk_below (g := gb464) (o := .cells #[.int .i64 0, .int .i64 0, .int .i64 0] 27 (0, 0)) (be BK464) hb2) (by decide))); have NB470_465 := Aside0.mk (IsS127.ne_blk hi (blk_below (g := gb465) (o := .cells #[.int .i64 0, .int .i64 0, .int .i64 0] 27 (0, 0)) (be BK465) hb2) (by decide)); have NB465_470 := Aside0.mk (Ne.symm (IsS127.ne_blk hi (blk_below (g := gb465) (o := .cells #[.int .i64 0, .int .i64 0, .int .i64 0] 27 (0, 0)) (be BK465) hb2) (by decide))); have NB470_466 := Aside0.mk (IsS127.ne_blk hi (blk_below (g := gb466) (o := .cells #[.int .i64 0, .int .i64 0, .int .i64 0] 27 (0, 0)) (be BK466) hb2) (by decide)); have NB466_470 := Aside0.mk (Ne.symm (IsS127.ne_blk hi (blk_below (g := gb466) (o := .cells #[.int .i64 0, .int .i64 0, .int .i64 0] 27 (0, 0)) (be BK466) hb2) (by decide))); replace BK464 := Aside0.mk (blk_below (g := gb464) (o := .cells #[.int .i64 0, .int .i64 0, .int .i64 0] 27 (0, 0)) (be BK464) hb2); replace BK465 := Aside0.mk (blk_below (g := gb465) (o := .cells #[.int .i64 0, .int .i64 0, .int .i64 0] 27 (0, 0)) (be BK465) hb2); replace BK466 := Aside0.mk (blk_below (g := gb466) (o := .cells #[.int .i64 0, .int .i64 0, .int .i64 0] 27 (0, 0)) (be BK466) hb2); replace HB := Aside0.mk (hb); (try clear hb); (try clear hb2); (try clear hk); (try clear hi)) | ((with_reducible refine zf 115 rfl ?_); refine g1 (some 14) Try.func115 #[.pointer (some ⟨g470, 0, none⟩)] ?_; (with_reducible refine (spec_l02Two.calls k g470 t467 t468 t469 t471 t472 t473 t474 t475 t476 t477 t478 t479 w _ ?side1 ?side2 A3.out).mono ?_); (case side1 => repeat (first | (with_reducible first | exact HI470.out | apply IsS127.alloc | apply IsS127.drewN | apply IsS127.drew | apply IsS127.set_1 | apply IsS127.set_2 | refine IsS127.far ?_ NB470_464.out _ | refine IsS127.far ?_ NB470_465.out _ | refine IsS127.far ?_ NB470_466.out _) | exact HI470.out)); (case side2 => repeat (first | (with_reducible first | exact HB.out | apply below_alloc | apply pw_below_drewN | apply below_drew1 | refine below_set ?_ (IsS127.ge HI470.out) | refine below_set ?_ GW464.out | refine below_set ?_ GW465.out | refine below_set ?_ GW466.out) | exact HB.out)); rintro e w10 ⟨rfl, hi, hb, hk⟩; refine ⟨_, rfl, ?_⟩; replace BK464 := kb hk BK464 NB464_470; replace BK465 := kb hk BK465 NB465_470; replace BK466 := kb hk BK466 NB466_470; replace HI470 := Aside0.mk (hi); replace HB := Aside0.mk (hb); (try clear hb hk)) | ((with_reducible refine zg 8 rfl ?_); refine z3 8 27 0 0 0 ?_; intro gb480 hg w11 BK480 hb; have GW480 := Aside0.mk ((by rw [hg]; exact (below_size (by repeat (first | (with_reducible first | exact HB.out | apply below_alloc | apply pw_below_drewN | apply below_drew1 | refine below_set ?_ (IsS127.ge HI470.out) | refine below_set ?_ GW464.out | refine below_set ?_ GW465.out | refine below_set ?_ GW466.out) | exact HB.out))) : w.heap.size ≤ gb480)); have GE480 := Aside0.mk ((by rw [hg]; exact (below_size (by repeat (first | (with_reducible first | exact HB.out | apply below_alloc | apply pw_below_drewN | apply below_drew1 | refine below_set ?_ (IsS127.ge HI470.out) | refine below_set ?_ GW464.out | refine below_set ?_ GW465.out | refine below_set ?_ GW466.out) | exact HB.out))) : w.heap.size ≤ gb480)); have NB464_480 := nl hg BK464; have NB465_480 := nl hg BK465; have NB466_480 := nl hg BK466; have NB470_480 := Aside0.mk ((by rw [hg]; exact Nat.ne_of_lt (IsS127.lt (show IsS127 w _ g470 t467 t478 t479 from by repeat (first | (with_reducible first | exact HI470.out | apply IsS127.alloc | apply IsS127.drewN | apply IsS127.drew | apply IsS127.set_1 | apply IsS127.set_2 | refine IsS127.far ?_ NB470_464.out _ | refine IsS127.far ?_ NB470_465.out _ | refine IsS127.far ?_ NB470_466.out _) | exact HI470.out))) : g470 ≠ gb480)); have NB480_470 := Aside0.mk ((by rw [hg]; exact Nat.ne_of_gt (IsS127.lt (show IsS127 w _ g470 t467 t478 t479 from by repeat (first | (with_reducible first | exact HI470.out | apply IsS127.alloc | apply IsS127.drewN | apply IsS127.drew | apply IsS127.set_1 | apply IsS127.set_2 | refine IsS127.far ?_ NB470_464.out _ | refine IsS127.far ?_ NB470_465.out _ | refine IsS127.far ?_ NB470_466.out _) | exact HI470.out))) : gb480 ≠ g470)); replace BK464 := bb BK464 hb; replace BK465 := bb BK465 hb; replace BK466 := bb BK466 hb; replace HB := Aside0.mk (below_step (by repeat (first | (with_reducible first | exact HB.out | apply below_alloc | apply pw_below_drewN | apply below_drew1 | refine below_set ?_ (IsS127.ge HI470.out) | refine below_set ?_ GW464.out | refine below_set ?_ GW465.out | refine below_set ?_ GW466.out) | exact HB.out)) hb); replace HI470 := Aside0.mk (IsS127.below (by repeat (first | (with_reducible first | exact HI470.out | apply IsS127.alloc | apply IsS127.drewN | apply IsS127.drew | apply IsS127.set_1 | apply IsS127.set_2 | refine IsS127.far ?_ NB470_464.out _ | refine IsS127.far ?_ NB470_465.out _ | refine IsS127.far ?_ NB470_466.out _) | exact HI470.out)) hb); clear hb hg) | ((with_reducible refine zg 9 rfl ?_); refine z3 9 27 0 0 0 ?_; intro gb481 hg w12 BK481 hb; have GW481 := Aside0.mk ((by rw [hg]; exact (below_size (by repeat (first | (with_reducible first | exact HB.out | apply below_alloc | apply pw_below_drewN | apply below_drew1 | refine below_set ?_ (IsS127.ge HI470.out) | refine below_set ?_ GW464.out | refine below_set ?_ GW465.out | refine below_set ?_ GW466.out | refine below_set ?_ GE480.out) | exact HB.out))) : w.heap.size ≤ gb481)); have GE481 := Aside0.mk ((by rw [hg]; exact (below_size (by repeat (first | (with_reducible first | exact HB.out | apply below_alloc | apply pw_below_drewN | apply below_drew1 | refine below_set ?_ (IsS127.ge HI470.out) | refine below_set ?_ GW464.out | refine below_set ?_ GW465.out | refine below_set ?_ GW466.out | refine below_set ?_ GE480.out) | exact HB.out))) : w.heap.size ≤ gb481)); have NB464_481 := nl hg BK464; have NB465_481 := nl hg BK465; have NB466_481 := nl hg BK466; have NB480_481 := nl hg BK480; have NB470_481 := Aside0.mk ((by rw [hg]; exact Nat.ne_of_lt (IsS127.lt (show IsS127 w _ g470 t467 t478 t479 from by repeat (first | (with_reducible first | exact HI470.out | apply IsS127.alloc | apply IsS127.drewN | apply IsS127.drew | apply IsS127.set_1 | apply IsS127.set_2 | refine IsS127.far ?_ NB470_464.out _ | refine IsS127.far ?_ NB470_465.out _ | refine IsS127.far ?_ NB470_466.out _ | refine IsS127.far ?_ NB470_480.out _) | exact HI470.out))) : g470 ≠ gb481)); have NB481_470 := Aside0.mk ((by rw [hg]; exact Nat.ne_of_gt (IsS127.lt (show IsS127 w _ g470 t467 t478 t479 from by repeat (first | (with_reducible first | exact HI470.out | apply IsS127.alloc | apply IsS127.drewN | apply IsS127.drew | apply IsS127.set_1 | apply IsS127.set_2 | refine IsS127.far ?_ NB470_464.out _ | refine IsS127.far ?_ NB470_465.out _ | refine IsS127.far ?_ NB470_466.out _ | refine IsS127.far ?_ NB470_480.out _) | exact HI470.out))) : gb481 ≠ g470)); replace BK464 := bb BK464 hb; replace BK465 := bb BK465 hb; replace BK466 := bb BK466 hb; replace BK480 := bb BK480 hb; replace HB := Aside0.mk (below_step (by repeat (first | (with_reducible first | exact HB.out | apply below_alloc | apply pw_below_drewN | apply below_drew1 | refine below_set ?_ (IsS127.ge HI470.out) | refine below_set ?_ GW464.out | refine below_set ?_ GW465.out | refine below_set ?_ GW466.out | refine below_set ?_ GE480.out) | exact HB.out)) hb); replace HI470 := Aside0.mk (IsS127.below (by repeat (first | (with_reducible first | exact HI470.out | apply IsS127.alloc | apply IsS127.drewN | apply IsS127.drew | apply IsS127.set_1 | apply IsS127.set_2 | refine IsS127.far ?_ NB470_464.out _ | refine IsS127.far ?_ NB470_465.out _ | refine IsS127.far ?_ NB470_466.out _ | refine IsS127.far ?_ NB470_480.out _) | exact HI470.out)) hb); clear hb hg; obtain ⟨hnb13, hnc13⟩ := zm NB464_480; obtain ⟨hnb14, hnc14⟩ := zm NB465_480; obtain ⟨hnb15, hnc15⟩ := zm NB466_480; obtain ⟨hnb16, hnc16⟩ := zn NB480_481; have hnb17 := NB480_470.out; have hnc17 := NB470_480.out; obtain ⟨hcz18_0, hcz18_1, hcz18_2, hfz18_0, hfz18_1, hfz18_2⟩ := cq3 BK480; obtain ⟨hnb19, hnc19⟩ := zm NB464_481; obtain ⟨hnb20, hnc20⟩ := zm NB465_481; obtain ⟨hnb21, hnc21⟩ := zm NB466_481; have hnb22 := NB481_470.out; have hnc22 := NB470_481.out; obtain ⟨hcz23_0, hcz23_1, hcz23_2, hfz23_0, hfz23_1, hfz23_2⟩ := cq3 BK481))
 have n0_ : Aside0 (((((((w12.setCell ⟨gb480, 0, none⟩ (.int .i64 t472)).setCell ⟨gb480, 1, none⟩ (.int .i64 t473)).setCell ⟨gb480, 2, none⟩ (.int .i64 t474)).setCell ⟨gb481, 0, none⟩ (.int .i64 t475)).setCell ⟨gb481, 1, none⟩ (.int .i64 t476)).setCell ⟨gb481, 2, none⟩ (.int .i64 t477)).heap[gb464]? = some (.cells #[.int .i64 0, .int .i64 0, .int .i64 0] 27 (0, 0))) := ⟨bp⟩
 have n1_ : Aside0 (((((((w12.setCell ⟨gb480, 0, none⟩ (.int .i64 t472)).setCell ⟨gb480, 1, none⟩ (.int .i64 t473)).setCell ⟨gb480, 2, none⟩ (.int .i64 t474)).setCell ⟨gb481, 0, none⟩ (.int .i64 t475)).setCell ⟨gb481, 1, none⟩ (.int .i64 t476)).setCell ⟨gb481, 2, none⟩ (.int .i64 t477)).heap[gb465]? = some (.cells #[.int .i64 0, .int .i64 0, .int .i64 0] 27 (0, 0))) := ⟨bp⟩
 have n2_ : Aside0 (((((((w12.setCell ⟨gb480, 0, none⟩ (.int .i64 t472)).setCell ⟨gb480, 1, none⟩ (.int .i64 t473)).setCell ⟨gb480, 2, none⟩ (.int .i64 t474)).setCell ⟨gb481, 0, none⟩ (.int .i64 t475)).setCell ⟨gb481, 1, none⟩ (.int .i64 t476)).setCell ⟨gb481, 2, none⟩ (.int .i64 t477)).heap[gb466]? = some (.cells #[.int .i64 0, .int .i64 0, .int .i64 0] 27 (0, 0))) := ⟨bp⟩
 have n3_ : Aside0 (((((((w12.setCell ⟨gb480, 0, none⟩ (.int .i64 t472)).setCell ⟨gb480, 1, none⟩ (.int .i64 t473)).setCell ⟨gb480, 2, none⟩ (.int .i64 t474)).setCell ⟨gb481, 0, none⟩ (.int .i64 t475)).setCell ⟨gb481, 1, none⟩ (.int .i64 t476)).setCell ⟨gb481, 2, none⟩ (.int .i64 t477)).heap[gb480]? = some (.cells #[.int .i64 t472, .int .i64 t473, .int .i64 t474] 27 (0, 0))) := ⟨bp⟩
 have n4_ : Aside0 (((((((w12.setCell ⟨gb480, 0, none⟩ (.int .i64 t472)).setCell ⟨gb480, 1, none⟩ (.int .i64 t473)).setCell ⟨gb480, 2, none⟩ (.int .i64 t474)).setCell ⟨gb481, 0, none⟩ (.int .i64 t475)).setCell ⟨gb481, 1, none⟩ (.int .i64 t476)).setCell ⟨gb481, 2, none⟩ (.int .i64 t477)).heap[gb481]? = some (.cells #[.int .i64 t475, .int .i64 t476, .int .i64 t477] 27 (0, 0))) := ⟨bp⟩
 have n5_ : Aside0 (IsS127 w ((((((w12.setCell ⟨gb480, 0, none⟩ (.int .i64 t472)).setCell ⟨gb480, 1, none⟩ (.int .i64 t473)).setCell ⟨gb480, 2, none⟩ (.int .i64 t474)).setCell ⟨gb481, 0, none⟩ (.int .i64 t475)).setCell ⟨gb481, 1, none⟩ (.int .i64 t476)).setCell ⟨gb481, 2, none⟩ (.int .i64 t477)) g470 t467 t478 t479) := ⟨by repeat (first | (with_reducible first | exact HI470.out | apply IsS127.alloc | apply IsS127.drewN | apply IsS127.drew | apply IsS127.set_1 | apply IsS127.set_2 | refine IsS127.far ?_ NB470_464.out _ | refine IsS127.far ?_ NB470_465.out _ | refine IsS127.far ?_ NB470_466.out _ | refine IsS127.far ?_ NB470_480.out _ | refine IsS127.far ?_ NB470_481.out _) | exact HI470.out)⟩
 have n6_ : Aside0 (Below w.heap.size w ((((((w12.setCell ⟨gb480, 0, none⟩ (.int .i64 t472)).setCell ⟨gb480, 1, none⟩ (.int .i64 t473)).setCell ⟨gb480, 2, none⟩ (.int .i64 t474)).setCell ⟨gb481, 0, none⟩ (.int .i64 t475)).setCell ⟨gb481, 1, none⟩ (.int .i64 t476)).setCell ⟨gb481, 2, none⟩ (.int .i64 t477))) := ⟨by repeat (first | (with_reducible first | exact HB.out | apply below_alloc | apply pw_below_drewN | apply below_drew1 | refine below_set ?_ (IsS127.ge HI470.out) | refine below_set ?_ GW464.out | refine below_set ?_ GW465.out | refine below_set ?_ GW466.out | refine below_set ?_ GE480.out | refine below_set ?_ GE481.out) | exact HB.out)⟩
 (try clear BK464)
 (try clear BK465)
 (try clear BK466)
 (try clear BK480)
 (try clear BK481)
 (try clear HI470)
 (try clear HB)
 generalize ((((((w12.setCell ⟨gb480, 0, none⟩ (.int .i64 t472)).setCell ⟨gb480, 1, none⟩ (.int .i64 t473)).setCell ⟨gb480, 2, none⟩ (.int .i64 t474)).setCell ⟨gb481, 0, none⟩ (.int .i64 t475)).setCell ⟨gb481, 1, none⟩ (.int .i64 t476)).setCell ⟨gb481, 2, none⟩ (.int .i64 t477)) = w24 at n0_ n1_ n2_ n3_ n4_ n5_ n6_ ⊢
 have BK464 := n0_
 have BK465 := n1_
 have BK466 := n2_
 have BK480 := n3_
 have BK481 := n4_
 have HI470 := n5_
 have HB := n6_
 clear n0_ n1_ n2_ n3_ n4_ n5_ n6_
 replace BK464 := Aside0.mk (blk_drew BK464.out)
 replace BK465 := Aside0.mk (blk_drew BK465.out)
 replace BK466 := Aside0.mk (blk_drew BK466.out)
 replace BK480 := Aside0.mk (blk_drew BK480.out)
 replace BK481 := Aside0.mk (blk_drew BK481.out)
 replace HI470 := Aside0.mk (IsS127.drew HI470.out)
 replace HB := Aside0.mk (below_drew1 HB.out)
 refine sw 11 (fun w' => w'.cell? ⟨gb480, 0, none⟩ = some (.int .i64 t472) ∧ w'.cell? ⟨gb480, 1, none⟩ = some (.int .i64 t473) ∧ w'.cell? ⟨gb480, 2, none⟩ = some (.int .i64 t474) ∧ w'.cell? ⟨gb481, 0, none⟩ = some (.int .i64 t475) ∧ w'.cell? ⟨gb481, 1, none⟩ = some (.int .i64 t476) ∧ w'.cell? ⟨gb481, 2, none⟩ = some (.int .i64 t477)) spec_DrawMedianOf.tab3 spec_DrawMedianOf.bits3 (e3r BK480 (e3 BK481)) (fun hHeld HT_ HW_ => ?_)
 generalize w24.drew = w25 at BK464 BK465 BK466 BK480 BK481 HI470 HB hHeld ⊢
 refine pu 0 (some 18) (tA 11 1) HT_ ?_
 refine pu 3 (some 21) (tA 11 9) HT_ ?_
 refine pu 4 (some 22) (tA 11 25) HT_ ?_
 refine tk6 1 (some 19) (tA 11 27) HT_ HW_ hHeld ?_
 refine tk6 2 (some 20) (tA 11 31) HT_ HW_ hHeld ?_
 refine o1 5 (some 23) (tA 11 63) HT_ (fun K hK => ?_)
 refine gs Try.func117 #[.int .i64 t471] ?_
 with_reducible refine (spec_l02Fine.calls t471 t482 _ A4.out).mono ?_
 rintro e w' ⟨rfl, ⟨nd, rfl⟩⟩
 refine ⟨_, rfl, ?_⟩
 refine hK.out _ _ (e3r BK480 (e3 BK481)) (fun hHeld => ?_)
 clear hK K
 refine nm (some 23) ?_
 refine o1 6 (some 24) (tA 11 127) HT_ (fun K hK => ?_)
 refine gs Try.func116 #[.pointer (some ⟨g470, 0, none⟩), .int .i64 t482] ?_
 with_reducible refine (spec_l01Draw.calls k g470 t467 t478 t479 t482 t483 t484 t485 t486 t487 w _ ?side1 ?side2 A5.out).mono ?_
 (case side1 => repeat (first | (with_reducible first | exact HI470.out | apply IsS127.alloc | apply IsS127.drewN | apply IsS127.drew | apply IsS127.set_1 | apply IsS127.set_2 | refine IsS127.far ?_ NB470_464.out _ | refine IsS127.far ?_ NB470_465.out _ | refine IsS127.far ?_ NB470_466.out _ | refine IsS127.far ?_ NB470_480.out _ | refine IsS127.far ?_ NB470_481.out _) | exact HI470.out))
 (case side2 => repeat (first | (with_reducible first | exact HB.out | apply below_alloc | apply pw_below_drewN | apply below_drew1 | refine below_set ?_ (IsS127.ge HI470.out) | refine below_set ?_ GW464.out | refine below_set ?_ GW465.out | refine below_set ?_ GW466.out | refine below_set ?_ GE480.out | refine below_set ?_ GE481.out) | exact HB.out))
 rintro e w26 ⟨rfl, hi, hb, hk⟩
 refine ⟨_, rfl, ?_⟩
 replace BK464 := kb hk BK464 NB464_470
 replace BK465 := kb hk BK465 NB465_470
 replace BK466 := kb hk BK466 NB466_470
 replace BK480 := kb hk BK480 NB480_470
 replace BK481 := kb hk BK481 NB481_470
 replace HI470 := Aside0.mk (hi)
 replace HB := Aside0.mk (hb)
 (try clear hb)
 (try clear hb2)
 (try clear hk)
 (try clear hi)
 refine hK.out _ _ (e3r BK480 (e3 BK481)) (fun hHeld => ?_)
 clear hK K
 refine nm (some 24) ?_
 refine pu 7 (some 2) (tA 11 255) HT_ ?_
 refine o1 8 none (tA 11 511) HT_ (fun K hK => ?_)
 have hs27 : w26.cell? ⟨gb464, 0, none⟩ = some (.int .i64 0) := (blk_cell BK464.out 0).trans rfl
 have hfs27 := blk_frozen BK464.out 0
 have hns27_1 := NB464_465.out.symm
 have hns27_2 := NB464_466.out.symm
 have hns27_3 := NB464_480.out.symm
 have hns27_4 := NB464_481.out.symm
 have hms27_1 := NB464_465.out
 have hms27_2 := NB464_466.out
 have hms27_3 := NB464_480.out
 have hms27_4 := NB464_481.out
 have hs28 : w26.cell? ⟨gb464, 1, none⟩ = some (.int .i64 0) := (blk_cell BK464.out 1).trans rfl
 have hfs28 := blk_frozen BK464.out 1
 have hns28_1 := NB464_465.out.symm
 have hns28_2 := NB464_466.out.symm
 have hns28_3 := NB464_480.out.symm
 have hns28_4 := NB464_481.out.symm
 have hms28_1 := NB464_465.out
 have hms28_2 := NB464_466.out
 have hms28_3 := NB464_480.out
 have hms28_4 := NB464_481.out
 have hs29 : w26.cell? ⟨gb464, 2, none⟩ = some (.int .i64 0) := (blk_cell BK464.out 2).trans rfl
 have hfs29 := blk_frozen BK464.out 2
 have hns29_1 := NB464_465.out.symm
 have hns29_2 := NB464_466.out.symm
 have hns29_3 := NB464_480.out.symm
 have hns29_4 := NB464_481.out.symm
 have hms29_1 := NB464_465.out
 have hms29_2 := NB464_466.out
 have hms29_3 := NB464_480.out
 have hms29_4 := NB464_481.out
 refine skip_ (w1 := ?_) (by rfl) rfl ?_ ?_
 rotate_left
 ·go_simp
  rfl
 refine hK.out _ _ (m3r hHeld (fun e => cs gb464 NB464_480 (cs gb464 NB464_480 (cs gb464 NB464_480 e))) (m3 hHeld.2.2.2 (fun e => cs gb464 NB464_481 (cs gb464 NB464_481 (cs gb464 NB464_481 e))))) (fun hHeld => ?_)
 clear hK K
 refine o1 9 none (tA 11 1023) HT_ (fun K hK => ?_)
 have hs30 : w26.cell? ⟨gb465, 0, none⟩ = some (.int .i64 0) := (blk_cell BK465.out 0).trans rfl
 have hfs30 := blk_frozen BK465.out 0
 have hns30_0 := NB464_465.out
 have hns30_2 := NB465_466.out.symm
 have hns30_3 := NB465_480.out.symm
 have hns30_4 := NB465_481.out.symm
 have hms30_0 := NB464_465.out.symm
 have hms30_2 := NB465_466.out
 have hms30_3 := NB465_480.out
 have hms30_4 := NB465_481.out
 have hs31 : w26.cell? ⟨gb465, 1, none⟩ = some (.int .i64 0) := (blk_cell BK465.out 1).trans rfl
 have hfs31 := blk_frozen BK465.out 1
 have hns31_0 := NB464_465.out
 have hns31_2 := NB465_466.out.symm
 have hns31_3 := NB465_480.out.symm
 have hns31_4 := NB465_481.out.symm
 have hms31_0 := NB464_465.out.symm
 have hms31_2 := NB465_466.out
 have hms31_3 := NB465_480.out
 have hms31_4 := NB465_481.out
 have hs32 : w26.cell? ⟨gb465, 2, none⟩ = some (.int .i64 0) := (blk_cell BK465.out 2).trans rfl
 have hfs32 := blk_frozen BK465.out 2
 have hns32_0 := NB464_465.out
 have hns32_2 := NB465_466.out.symm
 have hns32_3 := NB465_480.out.symm
 have hns32_4 := NB465_481.out.symm
 have hms32_0 := NB464_465.out.symm
 have hms32_2 := NB465_466.out
 have hms32_3 := NB465_480.out
 have hms32_4 := NB465_481.out
 refine skip_ (w1 := ?_) (by rfl) rfl ?_ ?_
 rotate_left
 ·go_simp
  rfl
 refine hK.out _ _ (m3r hHeld (fun e => cs gb465 NB465_480 (cs gb465 NB465_480 (cs gb465 NB465_480 e))) (m3 hHeld.2.2.2 (fun e => cs gb465 NB465_481 (cs gb465 NB465_481 (cs gb465 NB465_481 e))))) (fun hHeld => ?_)
 clear hK K
 refine o1 10 none (tA 11 2047) HT_ (fun K hK => ?_)
 have hs33 : w26.cell? ⟨gb466, 0, none⟩ = some (.int .i64 0) := (blk_cell BK466.out 0).trans rfl
 have hfs33 := blk_frozen BK466.out 0
 have hns33_0 := NB464_466.out
 have hns33_1 := NB465_466.out
 have hns33_3 := NB466_480.out.symm
 have hns33_4 := NB466_481.out.symm
 have hms33_0 := NB464_466.out.symm
 have hms33_1 := NB465_466.out.symm
 have hms33_3 := NB466_480.out
 have hms33_4 := NB466_481.out
 have hs34 : w26.cell? ⟨gb466, 1, none⟩ = some (.int .i64 0) := (blk_cell BK466.out 1).trans rfl
 have hfs34 := blk_frozen BK466.out 1
 have hns34_0 := NB464_466.out
 have hns34_1 := NB465_466.out
 have hns34_3 := NB466_480.out.symm
 have hns34_4 := NB466_481.out.symm
 have hms34_0 := NB464_466.out.symm
 have hms34_1 := NB465_466.out.symm
 have hms34_3 := NB466_480.out
 have hms34_4 := NB466_481.out
 have hs35 : w26.cell? ⟨gb466, 2, none⟩ = some (.int .i64 0) := (blk_cell BK466.out 2).trans rfl
 have hfs35 := blk_frozen BK466.out 2
 have hns35_0 := NB464_466.out
 have hns35_1 := NB465_466.out
 have hns35_3 := NB466_480.out.symm
 have hns35_4 := NB466_481.out.symm
 have hms35_0 := NB464_466.out.symm
 have hms35_1 := NB465_466.out.symm
 have hms35_3 := NB466_480.out
 have hms35_4 := NB466_481.out
 refine skip_ (w1 := ?_) (by rfl) rfl ?_ ?_
 rotate_left
 ·go_simp
  rfl
 refine hK.out _ _ (m3r hHeld (fun e => cs gb466 NB466_480 (cs gb466 NB466_480 (cs gb466 NB466_480 e))) (m3 hHeld.2.2.2 (fun e => cs gb466 NB466_481 (cs gb466 NB466_481 (cs gb466 NB466_481 e))))) (fun hHeld => ?_)
 clear hK K
 refine done_ (done_of HT_.out (by kernel_rfl)) ?_
 try go_wp2
 refine bodyPost_ret (results_list (rs := [.tmp 2, .cell 3 27, .cell 4 27, .cell 5 27]) rfl (by simp) (.tmp (.cell gb464 27 #[.int .i64 t472, .int .i64 t473, .int .i64 t474] (0, 0) _ rfl (bp) Try.underlying27 rfl (by kernel_rfl) (.cell gb465 27 #[.int .i64 t475, .int .i64 t476, .int .i64 t477] (0, 0) _ rfl (bp) Try.underlying27 rfl (by kernel_rfl) (.cell gb466 27 #[.int .i64 t483, .int .i64 t484, .int .i64 t485] (0, 0) _ rfl (bp) Try.underlying27 rfl (by kernel_rfl) .nil))))) rfl ?_
 exact ⟨er, by repeat (first | (with_reducible first | exact HB.out | apply below_alloc | apply pw_below_drewN | apply below_drew1 | refine below_set ?_ (IsS127.ge HI470.out) | refine below_set ?_ GW464.out | refine below_set ?_ GW465.out | refine below_set ?_ GW466.out | refine below_set ?_ GE480.out | refine below_set ?_ GE481.out) | exact HB.out)⟩

/-! ### impl_above: function 140 -/
def impl_above.f (k : Nat) (a0 : Int) (a1_0 : Int) (a1_1 : Int) (a1_2 : Int) (a2 : Int) : Option (Int × Int × Int) := (impl_mark.f k a0 a1_0 a1_1 a1_2).bind fun t490 => ((impl_ofMark.f k a0 a2 t490).bind fun bt491 => (some (bt491.1, bt491.2.1, bt491.2.2.1)))
set_option maxHeartbeats 8000000 in
set_option maxRecDepth 100000 in
theorem impl_above.calls (k : Nat) (a0 : Int) (a1_0 : Int) (a1_1 : Int) (a1_2 : Int) (a2 : Int) (r1 : Int) (r2 : Int) (r3 : Int) (w : World) (h : impl_above.f k a0 a1_0 a1_1 a1_2 a2 = some (r1, r2, r3)) :
  Calls Try.prog 140 #[.int .i64 a0, .agg #[.int .i64 a1_0, .int .i64 a1_1, .int .i64 a1_2], .int .i64 a2] w fun e w' => e = .returned (.agg #[.int .i64 r1, .int .i64 r2, .int .i64 r3]) ∧ Below w.heap.size w w' := by
 have hu27 := Try.underlying27
 have HB := Aside0.mk (Below.refl w.heap.size w)
 unfold impl_above.f at h
 have H := h
 clear h
 replace H := zi H
 obtain ⟨t490, A4, H⟩ := H
 try dsimp only at H
 replace H := zi H
 obtain ⟨⟨t491, t492, t493, t494⟩, A5, H⟩ := H
 try dsimp only at H
 simp only [Option.some.injEq, Prod.mk.injEq] at H
 obtain ⟨rfl, rfl, rfl⟩ := H
 go_enter Try.func140, Try.ntmps140
 go_wp2_with (first | ((with_reducible refine zg 4 rfl ?_); refine z3 4 27 a1_0 a1_1 a1_2 ?_; intro gb488 hg w6 BK488 hb; have GW488 := sg hg; replace HB := bs hb; clear hb hg) | ((with_reducible refine zg 6 rfl ?_); refine z3 6 27 0 0 0 ?_; intro gb489 hg w7 BK489 hb; have GW489 := sg hg; have NB488_489 := nl hg BK488; replace BK488 := bb BK488 hb; replace HB := bs hb; clear hb hg; obtain ⟨hnb8, hnc8⟩ := zn NB488_489; obtain ⟨hcz9_0, hcz9_1, hcz9_2, hfz9_0, hfz9_1, hfz9_2⟩ := cq3 BK488) | ((with_reducible refine zf 95 rfl ?_); refine g1 (some 14) Try.func95 #[.int .i64 a0, .agg #[.int .i64 a1_0, .int .i64 a1_1, .int .i64 a1_2]] ?_; (with_reducible refine (impl_mark.calls k a0 a1_0 a1_1 a1_2 t490 _ A4.out).mono ?_); rintro e w10 ⟨rfl, hb⟩; refine ⟨_, rfl, ?_⟩; replace BK488 := bb BK488 hb; replace BK489 := bb BK489 hb; replace HB := bs hb; (try clear hb)) | ((with_reducible refine zf 94 rfl ?_); refine g1 (some 15) Try.func94 #[.int .i64 a0, .int .i64 a2, .int .i64 t490] ?_; (with_reducible refine (impl_ofMark.calls k a0 a2 t490 t491 t492 t493 t494 _ A5.out).mono ?_); rintro e w11 ⟨rfl, hb⟩; refine ⟨_, rfl, ?_⟩; replace BK488 := bb BK488 hb; replace BK489 := bb BK489 hb; replace HB := bs hb; (try clear hb)) | ((with_reducible refine zg 7 rfl ?_); refine z3 7 27 0 0 0 ?_; intro gb495 hg w12 BK495 hb; have GW495 := sg hg; have NB488_495 := nl hg BK488; have NB489_495 := nl hg BK489; replace BK488 := bb BK488 hb; replace BK489 := bb BK489 hb; replace HB := bs hb; clear hb hg; obtain ⟨hnb13, hnc13⟩ := zm NB488_495; obtain ⟨hnb14, hnc14⟩ := zm NB489_495; obtain ⟨hcz15_0, hcz15_1, hcz15_2, hfz15_0, hfz15_1, hfz15_2⟩ := cq3 BK495; obtain ⟨hcz16_0, hcz16_1, hcz16_2, hfz16_0, hfz16_1, hfz16_2⟩ := cq3 BK489))
 refine bodyPost_ret (results_cell_row rfl _ _ gb489 27 #[.int .i64 t491, .int .i64 t492, .int .i64 t493] (0, 0) _ rfl (bp) Try.underlying27 rfl (by kernel_rfl)) rfl ?_
 exact ⟨er, bl⟩

/-! ### impl_join: function 112 -/
def impl_join.f (k : Nat) (a0 : Int) (a1_0 : Int) (a1_1 : Int) (a1_2 : Int) (a2_0 : Int) (a2_1 : Int) (a2_2 : Int) : Option (Int × Int × Int) := (impl_joinLevel.f k a0 a1_0 a1_1 a1_2 a2_0 a2_1 a2_2).bind fun t499 => ((impl_above.f k a0 a1_0 a1_1 a1_2 t499).bind fun bt500 => (some (bt500.1, bt500.2.1, bt500.2.2)))
def impl_join.T1 : Bool × List (List Nat × List Nat) := (true, [([], []), ([], []), ([], []), ([], []), ([], []), ([2, 3, 4], [2, 3, 4]), ([0, 1, 5, 5], [0, 1, 5]), ([6, 6, 0, 1, 2, 3, 4, 5, 6], [6])])
def impl_join.B1 : List Nat := [0, 0, 0, 0, 0, 28, 63, 127]
theorem impl_join.tab1 : rtab .any (opsOf Try.f112 1) = impl_join.T1 := by kernel_rfl
theorem impl_join.bits1 : waitsOk impl_join.T1.2 impl_join.B1 = true := by kernel_rfl
set_option maxHeartbeats 8000000 in
set_option maxRecDepth 100000 in
theorem impl_join.calls (k : Nat) (a0 : Int) (a1_0 : Int) (a1_1 : Int) (a1_2 : Int) (a2_0 : Int) (a2_1 : Int) (a2_2 : Int) (r1 : Int) (r2 : Int) (r3 : Int) (w : World) (h : impl_join.f k a0 a1_0 a1_1 a1_2 a2_0 a2_1 a2_2 = some (r1, r2, r3)) :
  Calls Try.prog 112 #[.int .i64 a0, .agg #[.int .i64 a1_0, .int .i64 a1_1, .int .i64 a1_2], .agg #[.int .i64 a2_0, .int .i64 a2_1, .int .i64 a2_2]] w fun e w' => e = .returned (.agg #[.int .i64 r1, .int .i64 r2, .int .i64 r3]) ∧ Below w.heap.size w w' := by
 have hu27 := Try.underlying27
 have HB := Aside0.mk (Below.refl w.heap.size w)
 unfold impl_join.f at h
 have H := h
 clear h
 replace H := zi H
 obtain ⟨t499, A4, H⟩ := H
 try dsimp only at H
 replace H := zi H
 obtain ⟨⟨t500, t501, t502⟩, A5, H⟩ := H
 try dsimp only at H
 simp only [Option.some.injEq, Prod.mk.injEq] at H
 obtain ⟨rfl, rfl, rfl⟩ := H
 go_enter Try.func112, Try.ntmps112
 try go_wp2_with (first | ((with_reducible refine zg 4 rfl ?_); refine z3 4 27 a1_0 a1_1 a1_2 ?_; intro gb496 hg w6 BK496 hb; have GW496 := sg hg; replace HB := bs hb; clear hb hg) | ((with_reducible refine zg 5 rfl ?_); refine z3 5 27 a2_0 a2_1 a2_2 ?_; intro gb497 hg w7 BK497 hb; have GW497 := sg hg; have NB496_497 := nl hg BK496; replace BK496 := bb BK496 hb; replace HB := bs hb; clear hb hg) | ((with_reducible refine zg 6 rfl ?_); refine z3 6 27 0 0 0 ?_; intro gb498 hg w8 BK498 hb; have GW498 := sg hg; have NB496_498 := nl hg BK496; have NB497_498 := nl hg BK497; replace BK496 := bb BK496 hb; replace BK497 := bb BK497 hb; replace HB := bs hb; clear hb hg))
 replace BK496 := Aside0.mk (blk_drew BK496.out)
 replace BK497 := Aside0.mk (blk_drew BK497.out)
 replace BK498 := Aside0.mk (blk_drew BK498.out)
 replace HB := Aside0.mk (below_drew1 HB.out)
 refine sw 8 (fun w' => w'.cell? ⟨gb496, 0, none⟩ = some (.int .i64 a1_0) ∧ w'.cell? ⟨gb496, 1, none⟩ = some (.int .i64 a1_1) ∧ w'.cell? ⟨gb496, 2, none⟩ = some (.int .i64 a1_2) ∧ w'.cell? ⟨gb497, 0, none⟩ = some (.int .i64 a2_0) ∧ w'.cell? ⟨gb497, 1, none⟩ = some (.int .i64 a2_1) ∧ w'.cell? ⟨gb497, 2, none⟩ = some (.int .i64 a2_2)) impl_join.tab1 impl_join.bits1 (e3r BK496 (e3 BK497)) (fun hHeld HT_ HW_ => ?_)
 generalize w8.drew = w9 at BK496 BK497 BK498 HB hHeld ⊢
 refine pu 0 (some 7) (tA 8 1) HT_ ?_
 refine pu 2 (some 9) (tA 8 5) HT_ ?_
 refine tk6 1 (some 8) (tA 8 7) HT_ HW_ hHeld ?_
 refine tk6 3 (some 10) (tA 8 15) HT_ HW_ hHeld ?_
 refine tk6 4 (some 11) (tA 8 31) HT_ HW_ hHeld ?_
 refine o1 5 (some 12) (tA 8 63) HT_ (fun K hK => ?_)
 refine gs Try.func139 #[.int .i64 a0, .agg #[.int .i64 a1_0, .int .i64 a1_1, .int .i64 a1_2], .agg #[.int .i64 a2_0, .int .i64 a2_1, .int .i64 a2_2]] ?_
 with_reducible refine (impl_joinLevel.calls k a0 a1_0 a1_1 a1_2 a2_0 a2_1 a2_2 t499 _ A4.out).mono ?_
 rintro e w10 ⟨rfl, hb⟩
 refine ⟨_, rfl, ?_⟩
 replace BK496 := bb BK496 hb
 replace BK497 := bb BK497 hb
 replace BK498 := bb BK498 hb
 replace HB := bs hb
 (try clear hb)
 (try clear hb2)
 (try clear hk)
 (try clear hi)
 refine hK.out _ _ (e3r BK496 (e3 BK497)) (fun hHeld => ?_)
 clear hK K
 refine nm (some 12) ?_
 refine o1 6 (some 13) (tA 8 127) HT_ (fun K hK => ?_)
 refine gs Try.func140 #[.int .i64 a0, .agg #[.int .i64 a1_0, .int .i64 a1_1, .int .i64 a1_2], .int .i64 t499] ?_
 with_reducible refine (impl_above.calls k a0 a1_0 a1_1 a1_2 t499 t500 t501 t502 _ A5.out).mono ?_
 rintro e w11 ⟨rfl, hb⟩
 refine ⟨_, rfl, ?_⟩
 replace BK496 := bb BK496 hb
 replace BK497 := bb BK497 hb
 replace BK498 := bb BK498 hb
 replace HB := bs hb
 (try clear hb)
 (try clear hb2)
 (try clear hk)
 (try clear hi)
 refine hK.out _ _ (e3r BK496 (e3 BK497)) (fun hHeld => ?_)
 clear hK K
 refine nm (some 13) ?_
 refine o1 7 none (tA 8 255) HT_ (fun K hK => ?_)
 have hs12 : w11.cell? ⟨gb498, 0, none⟩ = some (.int .i64 0) := (blk_cell BK498.out 0).trans rfl
 have hfs12 := blk_frozen BK498.out 0
 have hns12_0 := NB496_498.out
 have hns12_1 := NB497_498.out
 have hms12_0 := NB496_498.out.symm
 have hms12_1 := NB497_498.out.symm
 have hs13 : w11.cell? ⟨gb498, 1, none⟩ = some (.int .i64 0) := (blk_cell BK498.out 1).trans rfl
 have hfs13 := blk_frozen BK498.out 1
 have hns13_0 := NB496_498.out
 have hns13_1 := NB497_498.out
 have hms13_0 := NB496_498.out.symm
 have hms13_1 := NB497_498.out.symm
 have hs14 : w11.cell? ⟨gb498, 2, none⟩ = some (.int .i64 0) := (blk_cell BK498.out 2).trans rfl
 have hfs14 := blk_frozen BK498.out 2
 have hns14_0 := NB496_498.out
 have hns14_1 := NB497_498.out
 have hms14_0 := NB496_498.out.symm
 have hms14_1 := NB497_498.out.symm
 refine skip_ (w1 := ?_) (by rfl) rfl ?_ ?_
 rotate_left
 ·go_simp
  rfl
 refine hK.out _ _ (m3r hHeld (fun e => cf gb498 NB496_498 (cf gb498 NB496_498 (cf gb498 NB496_498 e))) (m3 hHeld.2.2.2 (fun e => cf gb498 NB497_498 (cf gb498 NB497_498 (cf gb498 NB497_498 e))))) (fun hHeld => ?_)
 clear hK K
 refine done_ (done_of HT_.out (by kernel_rfl)) ?_
 try go_wp2
 refine bodyPost_ret (results_cell_row rfl _ _ gb498 27 #[.int .i64 t500, .int .i64 t501, .int .i64 t502] (0, 0) _ rfl (bp) Try.underlying27 rfl (by kernel_rfl)) rfl ?_
 exact ⟨er, bl⟩

end Go.Proofs.Ytpmepopagapeiaa.PFnMedians

-- Printed by the kit's print and repaired by a program of this session.
import Derived.Test.YtpmepopagapeiaaPFnBallsx0
import Derived.Test.YtpmepopagapeiaaPFnBallsx1
import Derived.Test.YtpmepopagapeiaaPFnBallsx4
import Derived.Test.YtpmepopagapeiaaPFnBallsx5
import Derived.Test.YtpmepopagapeiaaPFnBallsx8
import Derived.Test.YtpmepopagapeiaaPFnBallsx9
import Derived.Test.YtpmepopagapeiaaPFnBallsx11
import Derived.Test.YtpmepopagapeiaaPFnBallsx15
import Derived.Test.YtpmepopagapeiaaPFnBallsx17
namespace Go.Proofs.Ytpmepopagapeiaa.PFnBalls
open Go.RowKit Go.Proofs.YtpmepopagapeiaaW.PrintWords Go.Proofs.YtpmepopagapeiaaW.PrintLast Go.Proofs.YtpmepopagapeiaaW.PrintMore
attribute [local go_sem] max2_int min2_int max_two min_two max_three min_three max_four min_four
set_option linter.unusedVariables false
set_option linter.unusedSimpArgs false

attribute [local go_sem high] eqA27
/-! ### spec_DrawHoldsFraction: function 77 -/
def spec_DrawHoldsFraction.f (k : Nat) (l0 : List Int) : Option (Int × Int × Int × Int × Int × Int) := (spec_l01From.f k l0).bind fun bt578 => ((spec_l01Spoil.f k bt578.1 bt578.2.1 bt578.2.2).bind fun bt582 => ((spec_l01Parts.f k bt578.1 bt582.2.2.2.2.1 bt582.2.2.2.2.2 bt582.1 1000000).bind fun bt589 => ((spec_l01Next.f bt578.1 bt589.2.2.1 bt589.2.2.2 2).bind fun bt593 => (if bt593.1 = 0 then ((spec_l01Is.f k bt582.1 bt582.2.1 bt582.2.2.1 bt582.2.2.2.1).bind fun t596 => (if t596 = true then (if bt582.2.2.1 < 1000000 then ((spec_l01Power.f k bt582.1 bt582.2.2.2.1).bind fun t597 => (some (bt582.1, bt582.2.1, bt582.2.2.1, bt582.2.2.2.1, bt582.2.2.1, t597))) else (some (bt582.1, bt582.2.1, bt582.2.2.1, bt582.2.2.2.1, bt589.1, bt589.2.1))) else (some (bt582.1, bt582.2.1, bt582.2.2.1, bt582.2.2.2.1, bt589.1, bt589.2.1)))) else (some (bt582.1, bt582.2.1, bt582.2.2.1, bt582.2.2.2.1, bt589.1, bt589.2.1))))))
def spec_DrawHoldsFraction.T5 : Bool × List (List Nat × List Nat) := (true, [([], []), ([], []), ([], []), ([2], [2]), ([], []), ([], []), ([5], [5]), ([4, 6], [4, 6]), ([0, 7, 0], [0]), ([1, 8, 0, 1, 8], [1]), ([3, 9, 0, 1, 2, 3, 8, 9], [3]), ([7, 10, 0, 1, 2, 3, 4, 5, 6, 7, 8, 9, 10], [7])])
def spec_DrawHoldsFraction.B5 : List Nat := [0, 0, 0, 4, 0, 0, 32, 112, 241, 499, 1023, 2047]
theorem spec_DrawHoldsFraction.tab5 : rtab .any (opsOf Try.f77 5) = spec_DrawHoldsFraction.T5 := by kernel_rfl
theorem spec_DrawHoldsFraction.bits5 : waitsOk spec_DrawHoldsFraction.T5.2 spec_DrawHoldsFraction.B5 = true := by kernel_rfl
def spec_DrawHoldsFraction.T6 : Bool × List (List Nat × List Nat) := (true, [([], []), ([], []), ([], []), ([], []), ([0, 0], [0]), ([1, 4, 0, 1, 4], [1]), ([2, 5, 0, 1, 2, 4, 5], [2]), ([3, 6, 0, 1, 2, 3, 4, 5, 6], [3])])
def spec_DrawHoldsFraction.B6 : List Nat := [0, 0, 0, 0, 1, 19, 55, 127]
theorem spec_DrawHoldsFraction.tab6 : rtab .any (opsOf Try.f77 6) = spec_DrawHoldsFraction.T6 := by kernel_rfl
theorem spec_DrawHoldsFraction.bits6 : waitsOk spec_DrawHoldsFraction.T6.2 spec_DrawHoldsFraction.B6 = true := by kernel_rfl
set_option maxHeartbeats 8000000 in
set_option maxRecDepth 100000 in
theorem spec_DrawHoldsFraction.calls (k : Nat) (A0 : Option Addr) (c0 : Nat) (l0 : List Int) (r1 : Int) (r2 : Int) (r3 : Int) (r4 : Int) (r5 : Int) (r6 : Int) (w : World) (hr0 : Kd.C (Kd.int .u8) w A0 l0.length l0) (hc0 : l0.length ≤ c0) (h : spec_DrawHoldsFraction.f k l0 = some (r1, r2, r3, r4, r5, r6)) :
  Calls Try.prog 77 #[.slice A0 l0.length c0] w fun e w' => e = .returned (.tuple #[.int .i64 r1, .agg #[.int .i64 r2, .int .i64 r3, .int .i64 r4], .int .i64 r5, .int .i64 r6]) ∧ Below w.heap.size w w' := by
 have hu27 := Try.underlying27
 have HR0 := Aside0.mk hr0
 have HC0 := Aside0.mk hc0
 clear hr0 hc0
 have HB := Aside0.mk (Below.refl w.heap.size w)
 unfold spec_DrawHoldsFraction.f at h
 have H := h
 clear h
 replace H := zi H
 obtain ⟨⟨t578, t579, t580⟩, A2, H⟩ := H
 try dsimp only at H
 replace H := zi H
 obtain ⟨⟨t582, t583, t584, t585, t586, t587⟩, A3, H⟩ := H
 try dsimp only at H
 replace H := zi H
 obtain ⟨⟨t589, t590, t591, t592⟩, A4, H⟩ := H
 try dsimp only at H
 replace H := zi H
 obtain ⟨⟨t593, t594, t595⟩, A5, H⟩ := H
 try dsimp only at H
 replace H := ii H
 rcases H with ⟨c6, H⟩ | ⟨c6, H⟩
 ·obtain ⟨c6b0, c6b1⟩ := zz c6
  clear c6
  replace H := zi H
  obtain ⟨t596, A7, H⟩ := H
  try dsimp only at H
  by_cases c8 : t596 = true
  ·subst c8
   rw [if_pos rfl] at H
   replace H := ii H
   rcases H with ⟨c9, H⟩ | ⟨c9, H⟩
   ·have c9b0 := decide_eq_true c9
    clear c9
    replace H := zi H
    obtain ⟨t597, A10, H⟩ := H
    try dsimp only at H
    simp only [Option.some.injEq, Prod.mk.injEq] at H
    obtain ⟨rfl, rfl, rfl, rfl, rfl, rfl⟩ := H
    go_enter Try.func77, Try.ntmps77
    try go_wp2_with (first | ((with_reducible refine zg 3 rfl ?_); refine z3 3 27 0 0 0 ?_; intro gb577 hg w11 BK577 hb; have GW577 := sg hg; replace HB := bs hb; clear hb hg) | ((with_reducible refine zf 98 rfl ?_); refine g1 (some 12) Try.func98 #[.slice A0 l0.length c0] ?_; (with_reducible refine (spec_l01From.calls k _ _ l0 t578 t579 t580 w _ ?side1 ?side2 ?side3 A2.out).mono ?_); (case side1 => exact bl); (case side2 => exact HR0.out); (case side3 => exact HC0.out); rintro e w12 ⟨g581, rfl, hi, hb, hb2⟩; refine ⟨_, rfl, ?_⟩; have HI581 := Aside0.mk (hi); have NB581_577 := Aside0.mk (IsS127.ne_blk hi (blk_below (g := gb577) (o := .cells #[.int .i64 0, .int .i64 0, .int .i64 0] 27 (0, 0)) (be BK577) hb2) (by decide)); have NB577_581 := Aside0.mk (Ne.symm (IsS127.ne_blk hi (blk_below (g := gb577) (o := .cells #[.int .i64 0, .int .i64 0, .int .i64 0] 27 (0, 0)) (be BK577) hb2) (by decide))); replace BK577 := Aside0.mk (blk_below (g := gb577) (o := .cells #[.int .i64 0, .int .i64 0, .int .i64 0] 27 (0, 0)) (be BK577) hb2); replace HB := Aside0.mk (hb); (try clear hb); (try clear hb2); (try clear hk); (try clear hi)) | ((with_reducible refine zf 99 rfl ?_); refine g1 (some 15) Try.func99 #[.pointer (some ⟨g581, 0, none⟩)] ?_; (with_reducible refine (spec_l01Spoil.calls k g581 t578 t579 t580 t582 t583 t584 t585 t586 t587 w _ ?side1 ?side2 A3.out).mono ?_); (case side1 => repeat (first | (with_reducible first | exact HI581.out | apply IsS127.alloc | apply IsS127.drewN | apply IsS127.drew | apply IsS127.set_1 | apply IsS127.set_2 | refine IsS127.far ?_ NB581_577.out _) | exact HI581.out)); (case side2 => repeat (first | (with_reducible first | exact HB.out | apply below_alloc | apply pw_below_drewN | apply below_drew1 | refine below_set ?_ (IsS127.ge HI581.out) | refine below_set ?_ GW577.out) | exact HB.out)); rintro e w13 ⟨rfl, hi, hb, hk⟩; refine ⟨_, rfl, ?_⟩; replace BK577 := kb hk BK577 NB577_581; replace HI581 := Aside0.mk (hi); replace HB := Aside0.mk (hb); (try clear hb hk)) | ((with_reducible refine zg 8 rfl ?_); refine z3 8 27 0 0 0 ?_; intro gb588 hg w14 BK588 hb; have GW588 := Aside0.mk ((by rw [hg]; exact (below_size (by repeat (first | (with_reducible first | exact HB.out | apply below_alloc | apply pw_below_drewN | apply below_drew1 | refine below_set ?_ (IsS127.ge HI581.out) | refine below_set ?_ GW577.out) | exact HB.out))) : w.heap.size ≤ gb588)); have GE588 := Aside0.mk ((by rw [hg]; exact (below_size (by repeat (first | (with_reducible first | exact HB.out | apply below_alloc | apply pw_below_drewN | apply below_drew1 | refine below_set ?_ (IsS127.ge HI581.out) | refine below_set ?_ GW577.out) | exact HB.out))) : w.heap.size ≤ gb588)); have NB577_588 := nl hg BK577; have NB581_588 := Aside0.mk ((by rw [hg]; exact Nat.ne_of_lt (IsS127.lt (show IsS127 w _ g581 t578 t586 t587 from by repeat (first | (with_reducible first | exact HI581.out | apply IsS127.alloc | apply IsS127.drewN | apply IsS127.drew | apply IsS127.set_1 | apply IsS127.set_2 | refine IsS127.far ?_ NB581_577.out _) | exact HI581.out))) : g581 ≠ gb588)); have NB588_581 := Aside0.mk ((by rw [hg]; exact Nat.ne_of_gt (IsS127.lt (show IsS127 w _ g581 t578 t586 t587 from by repeat (first | (with_reducible first | exact HI581.out | apply IsS127.alloc | apply IsS127.drewN | apply IsS127.drew | apply IsS127.set_1 | apply IsS127.set_2 | refine IsS127.far ?_ NB581_577.out _) | exact HI581.out))) : gb588 ≠ g581)); replace BK577 := bb BK577 hb; replace HB := Aside0.mk (below_step (by repeat (first | (with_reducible first | exact HB.out | apply below_alloc | apply pw_below_drewN | apply below_drew1 | refine below_set ?_ (IsS127.ge HI581.out) | refine below_set ?_ GW577.out) | exact HB.out)) hb); replace HI581 := Aside0.mk (IsS127.below (by repeat (first | (with_reducible first | exact HI581.out | apply IsS127.alloc | apply IsS127.drewN | apply IsS127.drew | apply IsS127.set_1 | apply IsS127.set_2 | refine IsS127.far ?_ NB581_577.out _) | exact HI581.out)) hb); clear hb hg; obtain ⟨hnb15, hnc15⟩ := zm NB577_588; have hnb16 := NB588_581.out; have hnc16 := NB581_588.out; obtain ⟨hcz17_0, hcz17_1, hcz17_2, hfz17_0, hfz17_1, hfz17_2⟩ := cq3 BK588) | ((with_reducible refine zf 126 rfl ?_); refine g1 (some 21) Try.func126 #[.pointer (some ⟨g581, 0, none⟩), .int .i64 t582, .int .i64 1000000] ?_; (with_reducible refine (spec_l01Parts.calls k g581 t578 t586 t587 t582 1000000 t589 t590 t591 t592 w _ ?side1 ?side2 A4.out).mono ?_); (case side1 => repeat (first | (with_reducible first | exact HI581.out | apply IsS127.alloc | apply IsS127.drewN | apply IsS127.drew | apply IsS127.set_1 | apply IsS127.set_2 | refine IsS127.far ?_ NB581_577.out _ | refine IsS127.far ?_ NB581_588.out _) | exact HI581.out)); (case side2 => repeat (first | (with_reducible first | exact HB.out | apply below_alloc | apply pw_below_drewN | apply below_drew1 | refine below_set ?_ (IsS127.ge HI581.out) | refine below_set ?_ GW577.out | refine below_set ?_ GE588.out) | exact HB.out)); rintro e w18 ⟨rfl, hi, hb, hk⟩; refine ⟨_, rfl, ?_⟩; replace BK577 := Aside0.mk (KeepBut.blk hk (g' := gb577) (o := .cells #[.int .i64 0, .int .i64 0, .int .i64 0] 27 (0, 0)) (bp) NB577_581.out (by simp)); replace BK588 := Aside0.mk (KeepBut.blk hk (g' := gb588) (o := .cells #[.int .i64 t583, .int .i64 t584, .int .i64 t585] 27 (0, 0)) (bp) NB588_581.out (by simp)); replace HI581 := Aside0.mk (hi); replace HB := Aside0.mk (hb); (try clear hb hk)) | ((with_reducible refine zf 101 rfl ?_); refine g1 (some 25) Try.func101 #[.pointer (some ⟨g581, 0, none⟩), .int .i64 2] ?_; (with_reducible refine (spec_l01Next.calls g581 t578 t591 t592 2 t593 t594 t595 w _ ?side1 ?side2 A5.out).mono ?_); (case side1 => repeat (first | (with_reducible first | exact HI581.out | apply IsS127.alloc | apply IsS127.drewN | apply IsS127.drew | apply IsS127.set_1 | apply IsS127.set_2 | refine IsS127.far ?_ NB581_577.out _ | refine IsS127.far ?_ NB581_588.out _) | exact HI581.out)); (case side2 => repeat (first | (with_reducible first | exact HB.out | apply below_alloc | apply pw_below_drewN | apply below_drew1 | refine below_set ?_ (IsS127.ge HI581.out) | refine below_set ?_ GW577.out | refine below_set ?_ GE588.out) | exact HB.out)); rintro e w19 ⟨rfl, hi, hb, hk⟩; refine ⟨_, rfl, ?_⟩; replace BK577 := kb hk BK577 NB577_581; replace BK588 := kb hk BK588 NB588_581; replace HI581 := Aside0.mk (hi); replace HB := Aside0.mk (hb); (try clear hb hk); obtain ⟨hcz20_0, hcz20_1, hcz20_2, hfz20_0, hfz20_1, hfz20_2⟩ := cq3 BK588) | (go_at_call 134; (with_reducible refine (spec_l01Is.calls k t582 t583 t584 t585 true _ A7.out).mono ?_); rintro e w21 ⟨rfl, hb⟩; replace BK577 := bb BK577 hb; replace BK588 := bb BK588 hb; replace HB := Aside0.mk (below_step (by repeat (first | (with_reducible first | exact HB.out | apply below_alloc | apply pw_below_drewN | apply below_drew1 | refine below_set ?_ (IsS127.ge HI581.out) | refine below_set ?_ GW577.out | refine below_set ?_ GE588.out) | exact HB.out)) hb); replace HI581 := Aside0.mk (IsS127.below (by repeat (first | (with_reducible first | exact HI581.out | apply IsS127.alloc | apply IsS127.drewN | apply IsS127.drew | apply IsS127.set_1 | apply IsS127.set_2 | refine IsS127.far ?_ NB581_577.out _ | refine IsS127.far ?_ NB581_588.out _) | exact HI581.out)) hb); (try clear hb); obtain ⟨hcz22_0, hcz22_1, hcz22_2, hfz22_0, hfz22_1, hfz22_2⟩ := cq3 BK588))
    replace BK577 := Aside0.mk (blk_drew BK577.out)
    replace BK588 := Aside0.mk (blk_drew BK588.out)
    replace HI581 := Aside0.mk (IsS127.drew HI581.out)
    replace HB := Aside0.mk (below_drew1 HB.out)
    refine sw 12 (fun w' => w'.cell? ⟨gb588, 0, none⟩ = some (.int .i64 t583) ∧ w'.cell? ⟨gb588, 1, none⟩ = some (.int .i64 t584) ∧ w'.cell? ⟨gb588, 2, none⟩ = some (.int .i64 t585)) spec_DrawHoldsFraction.tab5 spec_DrawHoldsFraction.bits5 (e3 BK588) (fun hHeld HT_ HW_ => ?_)
    generalize w21.drew = w23 at BK577 BK588 HI581 HB hHeld ⊢
    refine pu 0 (some 37) (tA 12 1) HT_ ?_
    refine pu 2 (some 39) (tA 12 5) HT_ ?_
    refine pu 4 (some 41) (tA 12 21) HT_ ?_
    refine pu 5 (some 42) (tA 12 53) HT_ ?_
    refine tk3 1 (some 38) (tA 12 55) HT_ HW_ hHeld ?_
    refine tk3 3 (some 40) (tA 12 63) HT_ HW_ hHeld ?_
    refine tk3 6 (some 43) (tA 12 127) HT_ HW_ hHeld ?_
    refine o1 7 (some 44) (tA 12 255) HT_ (fun K hK => ?_)
    refine gs Try.func96 #[.int .i64 t582, .int .i64 t585] ?_
    with_reducible refine (spec_l01Power.calls k t582 t585 t597 _ A10.out).mono ?_
    rintro e w' ⟨rfl, ⟨nd, rfl⟩⟩
    refine ⟨_, rfl, ?_⟩
    refine hK.out _ _ (e3 BK588) (fun hHeld => ?_)
    clear hK K
    refine nm (some 44) ?_
    refine pu 8 (some 2) (tA 12 511) HT_ ?_
    refine o1 9 none (tA 12 1023) HT_ (fun K hK => ?_)
    have hs24 : w23.cell? ⟨gb577, 0, none⟩ = some (.int .i64 0) := (blk_cell BK577.out 0).trans rfl
    have hfs24 := blk_frozen BK577.out 0
    obtain ⟨hns24_1, hms24_1⟩ := zm NB577_588
    have hs25 : w23.cell? ⟨gb577, 1, none⟩ = some (.int .i64 0) := (blk_cell BK577.out 1).trans rfl
    have hfs25 := blk_frozen BK577.out 1
    obtain ⟨hns25_1, hms25_1⟩ := zm NB577_588
    have hs26 : w23.cell? ⟨gb577, 2, none⟩ = some (.int .i64 0) := (blk_cell BK577.out 2).trans rfl
    have hfs26 := blk_frozen BK577.out 2
    obtain ⟨hns26_1, hms26_1⟩ := zm NB577_588
    refine skip_ (w1 := ?_) (by rfl) rfl ?_ ?_
    rotate_left
    ·go_simp
     rfl
    refine hK.out _ _ (m3 hHeld (fun e => cs gb577 NB577_588 (cs gb577 NB577_588 (cs gb577 NB577_588 e)))) (fun hHeld => ?_)
    clear hK K
    refine pu 10 (some 4) (tA 12 2047) HT_ ?_
    refine pu 11 (some 5) (tA 12 4095) HT_ ?_
    refine done_ (done_of HT_.out (by kernel_rfl)) ?_
    try go_wp2
    refine bodyPost_ret (results_list (rs := [.tmp 2, .cell 3 27, .tmp 4, .tmp 5]) rfl (by simp) (.tmp (.cell gb577 27 #[.int .i64 t583, .int .i64 t584, .int .i64 t585] (0, 0) _ rfl (bp) Try.underlying27 rfl (by kernel_rfl) (.tmp (.tmp .nil))))) rfl ?_
    exact ⟨er, by repeat (first | (with_reducible first | exact HB.out | apply below_alloc | apply pw_below_drewN | apply below_drew1 | refine below_set ?_ (IsS127.ge HI581.out) | refine below_set ?_ GW577.out | refine below_set ?_ GE588.out) | exact HB.out)⟩
   ·have c9b0 := decide_eq_false c9
    clear c9
    simp only [Option.some.injEq, Prod.mk.injEq] at H
    obtain ⟨rfl, rfl, rfl, rfl, rfl, rfl⟩ := H
    go_enter Try.func77, Try.ntmps77
    try go_wp2_with (first | ((with_reducible refine zg 3 rfl ?_); refine z3 3 27 0 0 0 ?_; intro gb577 hg w27 BK577 hb; have GW577 := sg hg; replace HB := bs hb; clear hb hg) | ((with_reducible refine zf 98 rfl ?_); refine g1 (some 12) Try.func98 #[.slice A0 l0.length c0] ?_; (with_reducible refine (spec_l01From.calls k _ _ l0 t578 t579 t580 w _ ?side1 ?side2 ?side3 A2.out).mono ?_); (case side1 => exact bl); (case side2 => exact HR0.out); (case side3 => exact HC0.out); rintro e w28 ⟨g581, rfl, hi, hb, hb2⟩; refine ⟨_, rfl, ?_⟩; have HI581 := Aside0.mk (hi); have NB581_577 := Aside0.mk (IsS127.ne_blk hi (blk_below (g := gb577) (o := .cells #[.int .i64 0, .int .i64 0, .int .i64 0] 27 (0, 0)) (be BK577) hb2) (by decide)); have NB577_581 := Aside0.mk (Ne.symm (IsS127.ne_blk hi (blk_below (g := gb577) (o := .cells #[.int .i64 0, .int .i64 0, .int .i64 0] 27 (0, 0)) (be BK577) hb2) (by decide))); replace BK577 := Aside0.mk (blk_below (g := gb577) (o := .cells #[.int .i64 0, .int .i64 0, .int .i64 0] 27 (0, 0)) (be BK577) hb2); replace HB := Aside0.mk (hb); (try clear hb); (try clear hb2); (try clear hk); (try clear hi)) | ((with_reducible refine zf 99 rfl ?_); refine g1 (some 15) Try.func99 #[.pointer (some ⟨g581, 0, none⟩)] ?_; (with_reducible refine (spec_l01Spoil.calls k g581 t578 t579 t580 t582 t583 t584 t585 t586 t587 w _ ?side1 ?side2 A3.out).mono ?_); (case side1 => repeat (first | (with_reducible first | exact HI581.out | apply IsS127.alloc | apply IsS127.drewN | apply IsS127.drew | apply IsS127.set_1 | apply IsS127.set_2 | refine IsS127.far ?_ NB581_577.out _) | exact HI581.out)); (case side2 => repeat (first | (with_reducible first | exact HB.out | apply below_alloc | apply pw_below_drewN | apply below_drew1 | refine below_set ?_ (IsS127.ge HI581.out) | refine below_set ?_ GW577.out) | exact HB.out)); rintro e w29 ⟨rfl, hi, hb, hk⟩; refine ⟨_, rfl, ?_⟩; replace BK577 := kb hk BK577 NB577_581; replace HI581 := Aside0.mk (hi); replace HB := Aside0.mk (hb); (try clear hb hk)) | ((with_reducible refine zg 8 rfl ?_); refine z3 8 27 0 0 0 ?_; intro gb588 hg w30 BK588 hb; have GW588 := Aside0.mk ((by rw [hg]; exact (below_size (by repeat (first | (with_reducible first | exact HB.out | apply below_alloc | apply pw_below_drewN | apply below_drew1 | refine below_set ?_ (IsS127.ge HI581.out) | refine below_set ?_ GW577.out) | exact HB.out))) : w.heap.size ≤ gb588)); have GE588 := Aside0.mk ((by rw [hg]; exact (below_size (by repeat (first | (with_reducible first | exact HB.out | apply below_alloc | apply pw_below_drewN | apply below_drew1 | refine below_set ?_ (IsS127.ge HI581.out) | refine below_set ?_ GW577.out) | exact HB.out))) : w.heap.size ≤ gb588)); have NB577_588 := nl hg BK577; have NB581_588 := Aside0.mk ((by rw [hg]; exact Nat.ne_of_lt (IsS127.lt (show IsS127 w _ g581 t578 t586 t587 from by repeat (first | (with_reducible first | exact HI581.out | apply IsS127.alloc | apply IsS127.drewN | apply IsS127.drew | apply IsS127.set_1 | apply IsS127.set_2 | refine IsS127.far ?_ NB581_577.out _) | exact HI581.out))) : g581 ≠ gb588)); have NB588_581 := Aside0.mk ((by rw [hg]; exact Nat.ne_of_gt (IsS127.lt (show IsS127 w _ g581 t578 t586 t587 from by repeat (first | (with_reducible first | exact HI581.out | apply IsS127.alloc | apply IsS127.drewN | apply IsS127.drew | apply IsS127.set_1 | apply IsS127.set_2 | refine IsS127.far ?_ NB581_577.out _) | exact HI581.out))) : gb588 ≠ g581)); replace BK577 := bb BK577 hb; replace HB := Aside0.mk (below_step (by repeat (first | (with_reducible first | exact HB.out | apply below_alloc | apply pw_below_drewN | apply below_drew1 | refine below_set ?_ (IsS127.ge HI581.out) | refine below_set ?_ GW577.out) | exact HB.out)) hb); replace HI581 := Aside0.mk (IsS127.below (by repeat (first | (with_reducible first | exact HI581.out | apply IsS127.alloc | apply IsS127.drewN | apply IsS127.drew | apply IsS127.set_1 | apply IsS127.set_2 | refine IsS127.far ?_ NB581_577.out _) | exact HI581.out)) hb); clear hb hg; obtain ⟨hnb31, hnc31⟩ := zm NB577_588; have hnb32 := NB588_581.out; have hnc32 := NB581_588.out; obtain ⟨hcz33_0, hcz33_1, hcz33_2, hfz33_0, hfz33_1, hfz33_2⟩ := cq3 BK588) | ((with_reducible refine zf 126 rfl ?_); refine g1 (some 21) Try.func126 #[.pointer (some ⟨g581, 0, none⟩), .int .i64 t582, .int .i64 1000000] ?_; (with_reducible refine (spec_l01Parts.calls k g581 t578 t586 t587 t582 1000000 t589 t590 t591 t592 w _ ?side1 ?side2 A4.out).mono ?_); (case side1 => repeat (first | (with_reducible first | exact HI581.out | apply IsS127.alloc | apply IsS127.drewN | apply IsS127.drew | apply IsS127.set_1 | apply IsS127.set_2 | refine IsS127.far ?_ NB581_577.out _ | refine IsS127.far ?_ NB581_588.out _) | exact HI581.out)); (case side2 => repeat (first | (with_reducible first | exact HB.out | apply below_alloc | apply pw_below_drewN | apply below_drew1 | refine below_set ?_ (IsS127.ge HI581.out) | refine below_set ?_ GW577.out | refine below_set ?_ GE588.out) | exact HB.out)); rintro e w34 ⟨rfl, hi, hb, hk⟩; refine ⟨_, rfl, ?_⟩; replace BK577 := Aside0.mk (KeepBut.blk hk (g' := gb577) (o := .cells #[.int .i64 0, .int .i64 0, .int .i64 0] 27 (0, 0)) (bp) NB577_581.out (by simp)); replace BK588 := Aside0.mk (KeepBut.blk hk (g' := gb588) (o := .cells #[.int .i64 t583, .int .i64 t584, .int .i64 t585] 27 (0, 0)) (bp) NB588_581.out (by simp)); replace HI581 := Aside0.mk (hi); replace HB := Aside0.mk (hb); (try clear hb hk)) | ((with_reducible refine zf 101 rfl ?_); refine g1 (some 25) Try.func101 #[.pointer (some ⟨g581, 0, none⟩), .int .i64 2] ?_; (with_reducible refine (spec_l01Next.calls g581 t578 t591 t592 2 t593 t594 t595 w _ ?side1 ?side2 A5.out).mono ?_); (case side1 => repeat (first | (with_reducible first | exact HI581.out | apply IsS127.alloc | apply IsS127.drewN | apply IsS127.drew | apply IsS127.set_1 | apply IsS127.set_2 | refine IsS127.far ?_ NB581_577.out _ | refine IsS127.far ?_ NB581_588.out _) | exact HI581.out)); (case side2 => repeat (first | (with_reducible first | exact HB.out | apply below_alloc | apply pw_below_drewN | apply below_drew1 | refine below_set ?_ (IsS127.ge HI581.out) | refine below_set ?_ GW577.out | refine below_set ?_ GE588.out) | exact HB.out)); rintro e w35 ⟨rfl, hi, hb, hk⟩; refine ⟨_, rfl, ?_⟩; replace BK577 := kb hk BK577 NB577_581; replace BK588 := kb hk BK588 NB588_581; replace HI581 := Aside0.mk (hi); replace HB := Aside0.mk (hb); (try clear hb hk); obtain ⟨hcz36_0, hcz36_1, hcz36_2, hfz36_0, hfz36_1, hfz36_2⟩ := cq3 BK588) | (go_at_call 134; (with_reducible refine (spec_l01Is.calls k t582 t583 t584 t585 true _ A7.out).mono ?_); rintro e w37 ⟨rfl, hb⟩; replace BK577 := bb BK577 hb; replace BK588 := bb BK588 hb; replace HB := Aside0.mk (below_step (by repeat (first | (with_reducible first | exact HB.out | apply below_alloc | apply pw_below_drewN | apply below_drew1 | refine below_set ?_ (IsS127.ge HI581.out) | refine below_set ?_ GW577.out | refine below_set ?_ GE588.out) | exact HB.out)) hb); replace HI581 := Aside0.mk (IsS127.below (by repeat (first | (with_reducible first | exact HI581.out | apply IsS127.alloc | apply IsS127.drewN | apply IsS127.drew | apply IsS127.set_1 | apply IsS127.set_2 | refine IsS127.far ?_ NB581_577.out _ | refine IsS127.far ?_ NB581_588.out _) | exact HI581.out)) hb); (try clear hb); obtain ⟨hcz38_0, hcz38_1, hcz38_2, hfz38_0, hfz38_1, hfz38_2⟩ := cq3 BK588))
    replace BK577 := Aside0.mk (blk_drew BK577.out)
    replace BK588 := Aside0.mk (blk_drew BK588.out)
    replace HI581 := Aside0.mk (IsS127.drew HI581.out)
    replace HB := Aside0.mk (below_drew1 HB.out)
    refine sw 8 (fun w' => w'.cell? ⟨gb588, 0, none⟩ = some (.int .i64 t583) ∧ w'.cell? ⟨gb588, 1, none⟩ = some (.int .i64 t584) ∧ w'.cell? ⟨gb588, 2, none⟩ = some (.int .i64 t585)) spec_DrawHoldsFraction.tab6 spec_DrawHoldsFraction.bits6 (e3 BK588) (fun hHeld HT_ HW_ => ?_)
    generalize w37.drew = w39 at BK577 BK588 HI581 HB hHeld ⊢
    refine pu 0 (some 45) (tA 8 1) HT_ ?_
    refine pu 2 (some 47) (tA 8 5) HT_ ?_
    refine pu 3 (some 48) (tA 8 13) HT_ ?_
    refine pu 4 (some 2) (tA 8 29) HT_ ?_
    refine tk3 1 (some 46) (tA 8 31) HT_ HW_ hHeld ?_
    refine o1 5 none (tA 8 63) HT_ (fun K hK => ?_)
    have hs40 : w39.cell? ⟨gb577, 0, none⟩ = some (.int .i64 0) := (blk_cell BK577.out 0).trans rfl
    have hfs40 := blk_frozen BK577.out 0
    obtain ⟨hns40_1, hms40_1⟩ := zm NB577_588
    have hs41 : w39.cell? ⟨gb577, 1, none⟩ = some (.int .i64 0) := (blk_cell BK577.out 1).trans rfl
    have hfs41 := blk_frozen BK577.out 1
    obtain ⟨hns41_1, hms41_1⟩ := zm NB577_588
    have hs42 : w39.cell? ⟨gb577, 2, none⟩ = some (.int .i64 0) := (blk_cell BK577.out 2).trans rfl
    have hfs42 := blk_frozen BK577.out 2
    obtain ⟨hns42_1, hms42_1⟩ := zm NB577_588
    refine skip_ (w1 := ?_) (by rfl) rfl ?_ ?_
    rotate_left
    ·go_simp
     rfl
    refine hK.out _ _ (m3 hHeld (fun e => cs gb577 NB577_588 (cs gb577 NB577_588 (cs gb577 NB577_588 e)))) (fun hHeld => ?_)
    clear hK K
    refine pu 6 (some 4) (tA 8 127) HT_ ?_
    refine pu 7 (some 5) (tA 8 255) HT_ ?_
    refine done_ (done_of HT_.out (by kernel_rfl)) ?_
    try go_wp2
    refine bodyPost_ret (results_list (rs := [.tmp 2, .cell 3 27, .tmp 4, .tmp 5]) rfl (by simp) (.tmp (.cell gb577 27 #[.int .i64 t583, .int .i64 t584, .int .i64 t585] (0, 0) _ rfl (bp) Try.underlying27 rfl (by kernel_rfl) (.tmp (.tmp .nil))))) rfl ?_
    exact ⟨er, by repeat (first | (with_reducible first | exact HB.out | apply below_alloc | apply pw_below_drewN | apply below_drew1 | refine below_set ?_ (IsS127.ge HI581.out) | refine below_set ?_ GW577.out | refine below_set ?_ GE588.out) | exact HB.out)⟩
  ·replace c8 := Bool.eq_false_iff.mpr c8
   subst c8
   have H1 : (some (t582, t583, t584, t585, t589, t590)) = some (r1, r2, r3, r4, r5, r6) := by rw [if_neg (show ¬ (false = true) by decide)] at H; exact H
   clear H
   have H := H1
   clear H1
   simp only [Option.some.injEq, Prod.mk.injEq] at H
   obtain ⟨rfl, rfl, rfl, rfl, rfl, rfl⟩ := H
   go_enter Try.func77, Try.ntmps77
   try go_wp2_with (first | ((with_reducible refine zg 3 rfl ?_); refine z3 3 27 0 0 0 ?_; intro gb577 hg w43 BK577 hb; have GW577 := sg hg; replace HB := bs hb; clear hb hg) | ((with_reducible refine zf 98 rfl ?_); refine g1 (some 12) Try.func98 #[.slice A0 l0.length c0] ?_; (with_reducible refine (spec_l01From.calls k _ _ l0 t578 t579 t580 w _ ?side1 ?side2 ?side3 A2.out).mono ?_); (case side1 => exact bl); (case side2 => exact HR0.out); (case side3 => exact HC0.out); rintro e w44 ⟨g581, rfl, hi, hb, hb2⟩; refine ⟨_, rfl, ?_⟩; have HI581 := Aside0.mk (hi); have NB581_577 := Aside0.mk (IsS127.ne_blk hi (blk_below (g := gb577) (o := .cells #[.int .i64 0, .int .i64 0, .int .i64 0] 27 (0, 0)) (be BK577) hb2) (by decide)); have NB577_581 := Aside0.mk (Ne.symm (IsS127.ne_blk hi (blk_below (g := gb577) (o := .cells #[.int .i64 0, .int .i64 0, .int .i64 0] 27 (0, 0)) (be BK577) hb2) (by decide))); replace BK577 := Aside0.mk (blk_below (g := gb577) (o := .cells #[.int .i64 0, .int .i64 0, .int .i64 0] 27 (0, 0)) (be BK577) hb2); replace HB := Aside0.mk (hb); (try clear hb); (try clear hb2); (try clear hk); (try clear hi)) | ((with_reducible refine zf 99 rfl ?_); refine g1 (some 15) Try.func99 #[.pointer (some ⟨g581, 0, none⟩)] ?_; (with_reducible refine (spec_l01Spoil.calls k g581 t578 t579 t580 t582 t583 t584 t585 t586 t587 w _ ?side1 ?side2 A3.out).mono ?_); (case side1 => repeat (first | (with_reducible first | exact HI581.out | apply IsS127.alloc | apply IsS127.drewN | apply IsS127.drew | apply IsS127.set_1 | apply IsS127.set_2 | refine IsS127.far ?_ NB581_577.out _) | exact HI581.out)); (case side2 => repeat (first | (with_reducible first | exact HB.out | apply below_alloc | apply pw_below_drewN | apply below_drew1 | refine below_set ?_ (IsS127.ge HI581.out) | refine below_set ?_ GW577.out) | exact HB.out)); rintro e w45 ⟨rfl, hi, hb, hk⟩; refine ⟨_, rfl, ?_⟩; replace BK577 := kb hk BK577 NB577_581; replace HI581 := Aside0.mk (hi); replace HB := Aside0.mk (hb); (try clear hb hk)) | ((with_reducible refine zg 8 rfl ?_); refine z3 8 27 0 0 0 ?_; intro gb588 hg w46 BK588 hb; have GW588 := Aside0.mk ((by rw [hg]; exact (below_size (by repeat (first | (with_reducible first | exact HB.out | apply below_alloc | apply pw_below_drewN | apply below_drew1 | refine below_set ?_ (IsS127.ge HI581.out) | refine below_set ?_ GW577.out) | exact HB.out))) : w.heap.size ≤ gb588)); have GE588 := Aside0.mk ((by rw [hg]; exact (below_size (by repeat (first | (with_reducible first | exact HB.out | apply below_alloc | apply pw_below_drewN | apply below_drew1 | refine below_set ?_ (IsS127.ge HI581.out) | refine below_set ?_ GW577.out) | exact HB.out))) : w.heap.size ≤ gb588)); have NB577_588 := nl hg BK577; have NB581_588 := Aside0.mk ((by rw [hg]; exact Nat.ne_of_lt (IsS127.lt (show IsS127 w _ g581 t578 t586 t587 from by repeat (first | (with_reducible first | exact HI581.out | apply IsS127.alloc | apply IsS127.drewN | apply IsS127.drew | apply IsS127.set_1 | apply IsS127.set_2 | refine IsS127.far ?_ NB581_577.out _) | exact HI581.out))) : g581 ≠ gb588)); have NB588_581 := Aside0.mk ((by rw [hg]; exact Nat.ne_of_gt (IsS127.lt (show IsS127 w _ g581 t578 t586 t587 from by repeat (first | (with_reducible first | exact HI581.out | apply IsS127.alloc | apply IsS127.drewN | apply IsS127.drew | apply IsS127.set_1 | apply IsS127.set_2 | refine IsS127.far ?_ NB581_577.out _) | exact HI581.out))) : gb588 ≠ g581)); replace BK577 := bb BK577 hb; replace HB := Aside0.mk (below_step (by repeat (first | (with_reducible first | exact HB.out | apply below_alloc | apply pw_below_drewN | apply below_drew1 | refine below_set ?_ (IsS127.ge HI581.out) | refine below_set ?_ GW577.out) | exact HB.out)) hb); replace HI581 := Aside0.mk (IsS127.below (by repeat (first | (with_reducible first | exact HI581.out | apply IsS127.alloc | apply IsS127.drewN | apply IsS127.drew | apply IsS127.set_1 | apply IsS127.set_2 | refine IsS127.far ?_ NB581_577.out _) | exact HI581.out)) hb); clear hb hg; obtain ⟨hnb47, hnc47⟩ := zm NB577_588; have hnb48 := NB588_581.out; have hnc48 := NB581_588.out; obtain ⟨hcz49_0, hcz49_1, hcz49_2, hfz49_0, hfz49_1, hfz49_2⟩ := cq3 BK588) | ((with_reducible refine zf 126 rfl ?_); refine g1 (some 21) Try.func126 #[.pointer (some ⟨g581, 0, none⟩), .int .i64 t582, .int .i64 1000000] ?_; (with_reducible refine (spec_l01Parts.calls k g581 t578 t586 t587 t582 1000000 t589 t590 t591 t592 w _ ?side1 ?side2 A4.out).mono ?_); (case side1 => repeat (first | (with_reducible first | exact HI581.out | apply IsS127.alloc | apply IsS127.drewN | apply IsS127.drew | apply IsS127.set_1 | apply IsS127.set_2 | refine IsS127.far ?_ NB581_577.out _ | refine IsS127.far ?_ NB581_588.out _) | exact HI581.out)); (case side2 => repeat (first | (with_reducible first | exact HB.out | apply below_alloc | apply pw_below_drewN | apply below_drew1 | refine below_set ?_ (IsS127.ge HI581.out) | refine below_set ?_ GW577.out | refine below_set ?_ GE588.out) | exact HB.out)); rintro e w50 ⟨rfl, hi, hb, hk⟩; refine ⟨_, rfl, ?_⟩; replace BK577 := Aside0.mk (KeepBut.blk hk (g' := gb577) (o := .cells #[.int .i64 0, .int .i64 0, .int .i64 0] 27 (0, 0)) (bp) NB577_581.out (by simp)); replace BK588 := Aside0.mk (KeepBut.blk hk (g' := gb588) (o := .cells #[.int .i64 t583, .int .i64 t584, .int .i64 t585] 27 (0, 0)) (bp) NB588_581.out (by simp)); replace HI581 := Aside0.mk (hi); replace HB := Aside0.mk (hb); (try clear hb hk)) | ((with_reducible refine zf 101 rfl ?_); refine g1 (some 25) Try.func101 #[.pointer (some ⟨g581, 0, none⟩), .int .i64 2] ?_; (with_reducible refine (spec_l01Next.calls g581 t578 t591 t592 2 t593 t594 t595 w _ ?side1 ?side2 A5.out).mono ?_); (case side1 => repeat (first | (with_reducible first | exact HI581.out | apply IsS127.alloc | apply IsS127.drewN | apply IsS127.drew | apply IsS127.set_1 | apply IsS127.set_2 | refine IsS127.far ?_ NB581_577.out _ | refine IsS127.far ?_ NB581_588.out _) | exact HI581.out)); (case side2 => repeat (first | (with_reducible first | exact HB.out | apply below_alloc | apply pw_below_drewN | apply below_drew1 | refine below_set ?_ (IsS127.ge HI581.out) | refine below_set ?_ GW577.out | refine below_set ?_ GE588.out) | exact HB.out)); rintro e w51 ⟨rfl, hi, hb, hk⟩; refine ⟨_, rfl, ?_⟩; replace BK577 := kb hk BK577 NB577_581; replace BK588 := kb hk BK588 NB588_581; replace HI581 := Aside0.mk (hi); replace HB := Aside0.mk (hb); (try clear hb hk); obtain ⟨hcz52_0, hcz52_1, hcz52_2, hfz52_0, hfz52_1, hfz52_2⟩ := cq3 BK588) | (go_at_call 134; (with_reducible refine (spec_l01Is.calls k t582 t583 t584 t585 false _ A7.out).mono ?_); rintro e w53 ⟨rfl, hb⟩; replace BK577 := bb BK577 hb; replace BK588 := bb BK588 hb; replace HB := Aside0.mk (below_step (by repeat (first | (with_reducible first | exact HB.out | apply below_alloc | apply pw_below_drewN | apply below_drew1 | refine below_set ?_ (IsS127.ge HI581.out) | refine below_set ?_ GW577.out | refine below_set ?_ GE588.out) | exact HB.out)) hb); replace HI581 := Aside0.mk (IsS127.below (by repeat (first | (with_reducible first | exact HI581.out | apply IsS127.alloc | apply IsS127.drewN | apply IsS127.drew | apply IsS127.set_1 | apply IsS127.set_2 | refine IsS127.far ?_ NB581_577.out _ | refine IsS127.far ?_ NB581_588.out _) | exact HI581.out)) hb); (try clear hb)))
   replace BK577 := Aside0.mk (blk_drew BK577.out)
   replace BK588 := Aside0.mk (blk_drew BK588.out)
   replace HI581 := Aside0.mk (IsS127.drew HI581.out)
   replace HB := Aside0.mk (below_drew1 HB.out)
   refine sw 8 (fun w' => w'.cell? ⟨gb588, 0, none⟩ = some (.int .i64 t583) ∧ w'.cell? ⟨gb588, 1, none⟩ = some (.int .i64 t584) ∧ w'.cell? ⟨gb588, 2, none⟩ = some (.int .i64 t585)) spec_DrawHoldsFraction.tab6 spec_DrawHoldsFraction.bits6 (e3 BK588) (fun hHeld HT_ HW_ => ?_)
   generalize w53.drew = w54 at BK577 BK588 HI581 HB hHeld ⊢
   refine pu 0 (some 45) (tA 8 1) HT_ ?_
   refine pu 2 (some 47) (tA 8 5) HT_ ?_
   refine pu 3 (some 48) (tA 8 13) HT_ ?_
   refine pu 4 (some 2) (tA 8 29) HT_ ?_
   refine tk3 1 (some 46) (tA 8 31) HT_ HW_ hHeld ?_
   refine o1 5 none (tA 8 63) HT_ (fun K hK => ?_)
   have hs55 : w54.cell? ⟨gb577, 0, none⟩ = some (.int .i64 0) := (blk_cell BK577.out 0).trans rfl
   have hfs55 := blk_frozen BK577.out 0
   obtain ⟨hns55_1, hms55_1⟩ := zm NB577_588
   have hs56 : w54.cell? ⟨gb577, 1, none⟩ = some (.int .i64 0) := (blk_cell BK577.out 1).trans rfl
   have hfs56 := blk_frozen BK577.out 1
   obtain ⟨hns56_1, hms56_1⟩ := zm NB577_588
   have hs57 : w54.cell? ⟨gb577, 2, none⟩ = some (.int .i64 0) := (blk_cell BK577.out 2).trans rfl
   have hfs57 := blk_frozen BK577.out 2
   obtain ⟨hns57_1, hms57_1⟩ := zm NB577_588
   refine skip_ (w1 := ?_) (by rfl) rfl ?_ ?_
   rotate_left
   ·go_simp
    rfl
   refine hK.out _ _ (m3 hHeld (fun e => cs gb577 NB577_588 (cs gb577 NB577_588 (cs gb577 NB577_588 e)))) (fun hHeld => ?_)
   clear hK K
   refine pu 6 (some 4) (tA 8 127) HT_ ?_
   refine pu 7 (some 5) (tA 8 255) HT_ ?_
   refine done_ (done_of HT_.out (by kernel_rfl)) ?_
   try go_wp2
   refine bodyPost_ret (results_list (rs := [.tmp 2, .cell 3 27, .tmp 4, .tmp 5]) rfl (by simp) (.tmp (.cell gb577 27 #[.int .i64 t583, .int .i64 t584, .int .i64 t585] (0, 0) _ rfl (bp) Try.underlying27 rfl (by kernel_rfl) (.tmp (.tmp .nil))))) rfl ?_
   exact ⟨er, by repeat (first | (with_reducible first | exact HB.out | apply below_alloc | apply pw_below_drewN | apply below_drew1 | refine below_set ?_ (IsS127.ge HI581.out) | refine below_set ?_ GW577.out | refine below_set ?_ GE588.out) | exact HB.out)⟩
 ·obtain ⟨c6b0, c6b1⟩ := zy c6
  simp only [Option.some.injEq, Prod.mk.injEq] at H
  obtain ⟨rfl, rfl, rfl, rfl, rfl, rfl⟩ := H
  go_enter Try.func77, Try.ntmps77
  try go_wp2_with (first | ((with_reducible refine zg 3 rfl ?_); refine z3 3 27 0 0 0 ?_; intro gb577 hg w58 BK577 hb; have GW577 := sg hg; replace HB := bs hb; clear hb hg) | ((with_reducible refine zf 98 rfl ?_); refine g1 (some 12) Try.func98 #[.slice A0 l0.length c0] ?_; (with_reducible refine (spec_l01From.calls k _ _ l0 t578 t579 t580 w _ ?side1 ?side2 ?side3 A2.out).mono ?_); (case side1 => exact bl); (case side2 => exact HR0.out); (case side3 => exact HC0.out); rintro e w59 ⟨g581, rfl, hi, hb, hb2⟩; refine ⟨_, rfl, ?_⟩; have HI581 := Aside0.mk (hi); have NB581_577 := Aside0.mk (IsS127.ne_blk hi (blk_below (g := gb577) (o := .cells #[.int .i64 0, .int .i64 0, .int .i64 0] 27 (0, 0)) (be BK577) hb2) (by decide)); have NB577_581 := Aside0.mk (Ne.symm (IsS127.ne_blk hi (blk_below (g := gb577) (o := .cells #[.int .i64 0, .int .i64 0, .int .i64 0] 27 (0, 0)) (be BK577) hb2) (by decide))); replace BK577 := Aside0.mk (blk_below (g := gb577) (o := .cells #[.int .i64 0, .int .i64 0, .int .i64 0] 27 (0, 0)) (be BK577) hb2); replace HB := Aside0.mk (hb); (try clear hb); (try clear hb2); (try clear hk); (try clear hi)) | ((with_reducible refine zf 99 rfl ?_); refine g1 (some 15) Try.func99 #[.pointer (some ⟨g581, 0, none⟩)] ?_; (with_reducible refine (spec_l01Spoil.calls k g581 t578 t579 t580 t582 t583 t584 t585 t586 t587 w _ ?side1 ?side2 A3.out).mono ?_); (case side1 => repeat (first | (with_reducible first | exact HI581.out | apply IsS127.alloc | apply IsS127.drewN | apply IsS127.drew | apply IsS127.set_1 | apply IsS127.set_2 | refine IsS127.far ?_ NB581_577.out _) | exact HI581.out)); (case side2 => repeat (first | (with_reducible first | exact HB.out | apply below_alloc | apply pw_below_drewN | apply below_drew1 | refine below_set ?_ (IsS127.ge HI581.out) | refine below_set ?_ GW577.out) | exact HB.out)); rintro e w60 ⟨rfl, hi, hb, hk⟩; refine ⟨_, rfl, ?_⟩; replace BK577 := kb hk BK577 NB577_581; replace HI581 := Aside0.mk (hi); replace HB := Aside0.mk (hb); (try clear hb hk)) | ((with_reducible refine zg 8 rfl ?_); refine z3 8 27 0 0 0 ?_; intro gb588 hg w61 BK588 hb; have GW588 := Aside0.mk ((by rw [hg]; exact (below_size (by repeat (first | (with_reducible first | exact HB.out | apply below_alloc | apply pw_below_drewN | apply below_drew1 | refine below_set ?_ (IsS127.ge HI581.out) | refine below_set ?_ GW577.out) | exact HB.out))) : w.heap.size ≤ gb588)); have GE588 := Aside0.mk ((by rw [hg]; exact (below_size (by repeat (first | (with_reducible first | exact HB.out | apply below_alloc | apply pw_below_drewN | apply below_drew1 | refine below_set ?_ (IsS127.ge HI581.out) | refine below_set ?_ GW577.out) | exact HB.out))) : w.heap.size ≤ gb588)); have NB577_588 := nl hg BK577; have NB581_588 := Aside0.mk ((by rw [hg]; exact Nat.ne_of_lt (IsS127.lt (show IsS127 w _ g581 t578 t586 t587 from by repeat (first | (with_reducible first | exact HI581.out | apply IsS127.alloc | apply IsS127.drewN | apply IsS127.drew | apply IsS127.set_1 | apply IsS127.set_2 | refine IsS127.far ?_ NB581_577.out _) | exact HI581.out))) : g581 ≠ gb588)); have NB588_581 := Aside0.mk ((by rw [hg]; exact Nat.ne_of_gt (IsS127.lt (show IsS127 w _ g581 t578 t586 t587 from by repeat (first | (with_reducible first | exact HI581.out | apply IsS127.alloc | apply IsS127.drewN | apply IsS127.drew | apply IsS127.set_1 | apply IsS127.set_2 | refine IsS127.far ?_ NB581_577.out _) | exact HI581.out))) : gb588 ≠ g581)); replace BK577 := bb BK577 hb; replace HB := Aside0.mk (below_step (by repeat (first | (with_reducible first | exact HB.out | apply below_alloc | apply pw_below_drewN | apply below_drew1 | refine below_set ?_ (IsS127.ge HI581.out) | refine below_set ?_ GW577.out) | exact HB.out)) hb); replace HI581 := Aside0.mk (IsS127.below (by repeat (first | (with_reducible first | exact HI581.out | apply IsS127.alloc | apply IsS127.drewN | apply IsS127.drew | apply IsS127.set_1 | apply IsS127.set_2 | refine IsS127.far ?_ NB581_577.out _) | exact HI581.out)) hb); clear hb hg; obtain ⟨hnb62, hnc62⟩ := zm NB577_588; have hnb63 := NB588_581.out; have hnc63 := NB581_588.out; obtain ⟨hcz64_0, hcz64_1, hcz64_2, hfz64_0, hfz64_1, hfz64_2⟩ := cq3 BK588) | ((with_reducible refine zf 126 rfl ?_); refine g1 (some 21) Try.func126 #[.pointer (some ⟨g581, 0, none⟩), .int .i64 t582, .int .i64 1000000] ?_; (with_reducible refine (spec_l01Parts.calls k g581 t578 t586 t587 t582 1000000 t589 t590 t591 t592 w _ ?side1 ?side2 A4.out).mono ?_); (case side1 => repeat (first | (with_reducible first | exact HI581.out | apply IsS127.alloc | apply IsS127.drewN | apply IsS127.drew | apply IsS127.set_1 | apply IsS127.set_2 | refine IsS127.far ?_ NB581_577.out _ | refine IsS127.far ?_ NB581_588.out _) | exact HI581.out)); (case side2 => repeat (first | (with_reducible first | exact HB.out | apply below_alloc | apply pw_below_drewN | apply below_drew1 | refine below_set ?_ (IsS127.ge HI581.out) | refine below_set ?_ GW577.out | refine below_set ?_ GE588.out) | exact HB.out)); rintro e w65 ⟨rfl, hi, hb, hk⟩; refine ⟨_, rfl, ?_⟩; replace BK577 := Aside0.mk (KeepBut.blk hk (g' := gb577) (o := .cells #[.int .i64 0, .int .i64 0, .int .i64 0] 27 (0, 0)) (bp) NB577_581.out (by simp)); replace BK588 := Aside0.mk (KeepBut.blk hk (g' := gb588) (o := .cells #[.int .i64 t583, .int .i64 t584, .int .i64 t585] 27 (0, 0)) (bp) NB588_581.out (by simp)); replace HI581 := Aside0.mk (hi); replace HB := Aside0.mk (hb); (try clear hb hk)) | ((with_reducible refine zf 101 rfl ?_); refine g1 (some 25) Try.func101 #[.pointer (some ⟨g581, 0, none⟩), .int .i64 2] ?_; (with_reducible refine (spec_l01Next.calls g581 t578 t591 t592 2 t593 t594 t595 w _ ?side1 ?side2 A5.out).mono ?_); (case side1 => repeat (first | (with_reducible first | exact HI581.out | apply IsS127.alloc | apply IsS127.drewN | apply IsS127.drew | apply IsS127.set_1 | apply IsS127.set_2 | refine IsS127.far ?_ NB581_577.out _ | refine IsS127.far ?_ NB581_588.out _) | exact HI581.out)); (case side2 => repeat (first | (with_reducible first | exact HB.out | apply below_alloc | apply pw_below_drewN | apply below_drew1 | refine below_set ?_ (IsS127.ge HI581.out) | refine below_set ?_ GW577.out | refine below_set ?_ GE588.out) | exact HB.out)); rintro e w66 ⟨rfl, hi, hb, hk⟩; refine ⟨_, rfl, ?_⟩; replace BK577 := kb hk BK577 NB577_581; replace BK588 := kb hk BK588 NB588_581; replace HI581 := Aside0.mk (hi); replace HB := Aside0.mk (hb); (try clear hb hk)))
  replace BK577 := Aside0.mk (blk_drew BK577.out)
  replace BK588 := Aside0.mk (blk_drew BK588.out)
  replace HI581 := Aside0.mk (IsS127.drew HI581.out)
  replace HB := Aside0.mk (below_drew1 HB.out)
  refine sw 8 (fun w' => w'.cell? ⟨gb588, 0, none⟩ = some (.int .i64 t583) ∧ w'.cell? ⟨gb588, 1, none⟩ = some (.int .i64 t584) ∧ w'.cell? ⟨gb588, 2, none⟩ = some (.int .i64 t585)) spec_DrawHoldsFraction.tab6 spec_DrawHoldsFraction.bits6 (e3 BK588) (fun hHeld HT_ HW_ => ?_)
  generalize w66.drew = w67 at BK577 BK588 HI581 HB hHeld ⊢
  refine pu 0 (some 45) (tA 8 1) HT_ ?_
  refine pu 2 (some 47) (tA 8 5) HT_ ?_
  refine pu 3 (some 48) (tA 8 13) HT_ ?_
  refine pu 4 (some 2) (tA 8 29) HT_ ?_
  refine tk3 1 (some 46) (tA 8 31) HT_ HW_ hHeld ?_
  refine o1 5 none (tA 8 63) HT_ (fun K hK => ?_)
  have hs68 : w67.cell? ⟨gb577, 0, none⟩ = some (.int .i64 0) := (blk_cell BK577.out 0).trans rfl
  have hfs68 := blk_frozen BK577.out 0
  obtain ⟨hns68_1, hms68_1⟩ := zm NB577_588
  have hs69 : w67.cell? ⟨gb577, 1, none⟩ = some (.int .i64 0) := (blk_cell BK577.out 1).trans rfl
  have hfs69 := blk_frozen BK577.out 1
  obtain ⟨hns69_1, hms69_1⟩ := zm NB577_588
  have hs70 : w67.cell? ⟨gb577, 2, none⟩ = some (.int .i64 0) := (blk_cell BK577.out 2).trans rfl
  have hfs70 := blk_frozen BK577.out 2
  obtain ⟨hns70_1, hms70_1⟩ := zm NB577_588
  refine skip_ (w1 := ?_) (by rfl) rfl ?_ ?_
  rotate_left
  ·go_simp
   rfl
  refine hK.out _ _ (m3 hHeld (fun e => cs gb577 NB577_588 (cs gb577 NB577_588 (cs gb577 NB577_588 e)))) (fun hHeld => ?_)
  clear hK K
  refine pu 6 (some 4) (tA 8 127) HT_ ?_
  refine pu 7 (some 5) (tA 8 255) HT_ ?_
  refine done_ (done_of HT_.out (by kernel_rfl)) ?_
  try go_wp2
  refine bodyPost_ret (results_list (rs := [.tmp 2, .cell 3 27, .tmp 4, .tmp 5]) rfl (by simp) (.tmp (.cell gb577 27 #[.int .i64 t583, .int .i64 t584, .int .i64 t585] (0, 0) _ rfl (bp) Try.underlying27 rfl (by kernel_rfl) (.tmp (.tmp .nil))))) rfl ?_
  exact ⟨er, by repeat (first | (with_reducible first | exact HB.out | apply below_alloc | apply pw_below_drewN | apply below_drew1 | refine below_set ?_ (IsS127.ge HI581.out) | refine below_set ?_ GW577.out | refine below_set ?_ GE588.out) | exact HB.out)⟩

/-! ### spec_HoldsFraction: function 78 -/
def spec_HoldsFraction.f (k : Nat) (a0 : Int) (a1_0 : Int) (a1_1 : Int) (a1_2 : Int) (a2 : Int) (a3 : Int) : Option (Bool × Int) := (spec_l01Code.f k a0 (([(⟨a1_0, a1_1, a1_2⟩ : S27)] : List (S27)))).bind fun t602 => (if t602 = 0 then ((spec_l01Fraction.f k a2 a3 1000000).bind fun t603 => (if t603 = 0 then ((spec_l01Of.f k a0 a2 a3 a1_0).bind fun bt604 => (if bt604.2.2.2 = true then (some ((bt604.1 == a1_0 && (bt604.2.1 == a1_1 && (bt604.2.2.1 == a1_2))), 0)) else (some (false, 0)))) else (some (false, t603)))) else (some (false, t602)))
set_option maxHeartbeats 8000000 in
set_option maxRecDepth 100000 in
theorem spec_HoldsFraction.calls (k : Nat) (a0 : Int) (a1_0 : Int) (a1_1 : Int) (a1_2 : Int) (a2 : Int) (a3 : Int) (r1 : Bool) (r2 : Int) (w : World) (h : spec_HoldsFraction.f k a0 a1_0 a1_1 a1_2 a2 a3 = some (r1, r2)) :
  Calls Try.prog 78 #[.int .i64 a0, .agg #[.int .i64 a1_0, .int .i64 a1_1, .int .i64 a1_2], .int .i64 a2, .int .i64 a3] w fun e w' => e = .returned (.tuple #[.bool r1, .int .i64 r2]) ∧ Below w.heap.size w w' := by
 have hu27 := Try.underlying27
 have HB := Aside0.mk (Below.refl w.heap.size w)
 unfold spec_HoldsFraction.f at h
 have H := h
 clear h
 obtain ⟨y599, hy599⟩ : ∃ y_ : List (S27), y_ = (([(⟨a1_0, a1_1, a1_2⟩ : S27)] : List (S27))) := ⟨_, rfl⟩
 replace H : ((spec_l01Code.f k a0 y599).bind fun t602 => (if t602 = 0 then ((spec_l01Fraction.f k a2 a3 1000000).bind fun t603 => (if t603 = 0 then ((spec_l01Of.f k a0 a2 a3 a1_0).bind fun bt604 => (if bt604.2.2.2 = true then (some ((bt604.1 == a1_0 && (bt604.2.1 == a1_1 && (bt604.2.2.1 == a1_2))), 0)) else (some (false, 0)))) else (some (false, t603)))) else (some (false, t602)))) = some (r1, r2) := by first | exact hy599 ▸ H | exact H
 have Ny599 := Aside0.mk hy599
 clear hy599
 replace H := zi H
 obtain ⟨t602, A5, H⟩ := H
 try dsimp only at H
 replace H := ii H
 rcases H with ⟨c6, H⟩ | ⟨c6, H⟩
 ·obtain ⟨c6b0, c6b1⟩ := zz c6
  clear c6
  replace H := zi H
  obtain ⟨t603, A7, H⟩ := H
  try dsimp only at H
  replace H := ii H
  rcases H with ⟨c8, H⟩ | ⟨c8, H⟩
  ·obtain ⟨c8b0, c8b1⟩ := zz c8
   clear c8
   replace H := zi H
   obtain ⟨⟨t604, t605, t606, t607⟩, A9, H⟩ := H
   try dsimp only at H
   by_cases c10 : t607 = true
   ·subst c10
    rw [if_pos rfl] at H
    simp only [Option.some.injEq, Prod.mk.injEq] at H
    obtain ⟨rfl, rfl⟩ := H
    go_enter Try.func78, Try.ntmps78
    go_wp2_with (first | ((with_reducible refine zg 5 rfl ?_); refine z3 5 27 a1_0 a1_1 a1_2 ?_; intro gb598 hg w11 BK598 hb; have GW598 := sg hg; replace HB := bs hb; clear hb hg; obtain ⟨hcz12_0, hcz12_1, hcz12_2, hfz12_0, hfz12_1, hfz12_2⟩ := cq3 BK598) | ((with_reducible refine zg 16 rfl ?_); refine Kd.R_lit k27 _ 27 ?hg (N := 16) ?hd (xs := ([(⟨a1_0, a1_1, a1_2⟩ : S27)] : List (S27))) (inner := [.int .i64 a1_0, .int .i64 a1_1, .int .i64 a1_2]) (ok := fun _ => True) (okp := fun _ => True) ?hr ?hp (fun _ hk => hk) trivial (Below.refl _ _) (Nat.le_refl _) (by simp) ?_; (case hd => rfl); (case hg => rfl); (case hr => first | (go_simp; done) | (go_simp; rfl)); (case hp => exact (Reps.c3 (show Kd.M k27 _ _ _ (⟨a1_0, a1_1, a1_2⟩ : S27) [.int .i64 a1_0, .int .i64 a1_1, .int .i64 a1_2] from (k27_mkM _ _ _ (⟨a1_0, a1_1, a1_2⟩ : S27) )) (Reps.none _ _))); intro v600 w13 ho14 hb hg_ hnew_; clear hg_ hnew_; (first | rw [← Ny599.out] at ho14 | (simp only [Int.reduceToNat] at ho14; rw [← Ny599.out] at ho14)); have HO601 := Aside0.mk (Kd.R_lower (Kd.R_newB ho14 (g := gb598) (o := .cells #[.int .i64 a1_0, .int .i64 a1_1, .int .i64 a1_2] 27 (0, 0)) (be BK598)) (below_size (bl))); replace BK598 := bb BK598 hb; replace HB := bs hb; clear hb ho14; obtain ⟨Ao15, co15, eo15⟩ := Kd.R_slice HO601.out; subst eo15) | ((with_reducible refine zf 81 rfl ?_); refine g1 (some 17) Try.func81 #[.int .i64 a0, .slice Ao15 y599.length co15] ?_; (with_reducible refine (spec_l01Code.calls k a0 _ _ y599 t602 _ ?side1 ?side2 A5.out).mono ?_); (case side1 => repeat (first | exact (Kd.R_reads' HO601.out).2.2 | (with_reducible refine Kd.C_alloc ?_ _) | (with_reducible refine Kd.C_drewN ?_ _) | (with_reducible refine Kd.C_drew ?_))); (case side2 => exact (Kd.R_reads' HO601.out).2.1); rintro e w16 ⟨rfl, hb⟩; refine ⟨_, rfl, ?_⟩; replace HO601 := Aside0.mk (Kd.R_below (by (with_reducible repeat (first | apply Kd.R_alloc | apply Kd.R_drewN | apply Kd.R_drew)); exact HO601.out) hb); replace BK598 := bb BK598 hb; replace HB := bs hb; (try clear hb)) | ((with_reducible refine zf 129 rfl ?_); refine g1 (some 23) Try.func129 #[.int .i64 a2, .int .i64 a3, .int .i64 1000000] ?_; (with_reducible refine (spec_l01Fraction.calls k a2 a3 1000000 t603 _ A7.out).mono ?_); rintro e w' ⟨rfl, ⟨nd, rfl⟩⟩; refine ⟨_, rfl, ?_⟩; (try (rw [drewN_self w16]; generalize hq_ : World.drewN w16 _ = w16; have n0_ : Aside0 (Kd.R k27 27 w16 w.heap.size (fun k_ => k_ ≠ gb598) (.slice Ao15 y599.length co15) y599) := ⟨by rw [← hq_]; exact (by (with_reducible repeat (first | apply Kd.R_alloc | apply Kd.R_drewN | apply Kd.R_drew)); exact Kd.R_mono HO601.out (fun _ hk => hk.2))⟩; have n1_ : Aside0 (w16.heap[gb598]? = some (.cells #[.int .i64 a1_0, .int .i64 a1_1, .int .i64 a1_2] 27 (0, 0))) := ⟨by rw [← hq_]; exact (be BK598)⟩; have n2_ : Aside0 (Below w.heap.size w w16) := ⟨by rw [← hq_]; exact (bl)⟩; clear HO601 BK598 HB hq_; have HO601 := n0_; have BK598 := n1_; have HB := n2_; clear n0_ n1_ n2_)); obtain ⟨hcz17_0, hcz17_1, hcz17_2, hfz17_0, hfz17_1, hfz17_2⟩ := cq3 BK598) | ((with_reducible refine zf 97 rfl ?_); refine g1 (some 33) Try.func97 #[.int .i64 a0, .int .i64 a2, .int .i64 a3, .int .i64 a1_0] ?_; (with_reducible refine (spec_l01Of.calls k a0 a2 a3 a1_0 t604 t605 t606 true _ A9.out).mono ?_); rintro e w18 ⟨rfl, hb⟩; refine ⟨_, rfl, ?_⟩; replace HO601 := Aside0.mk (Kd.R_below (by (with_reducible repeat (first | apply Kd.R_alloc | apply Kd.R_drewN | apply Kd.R_drew)); exact HO601.out) hb); replace BK598 := bb BK598 hb; replace HB := bs hb; (try clear hb)) | ((with_reducible refine zg 12 rfl ?_); refine z3 12 27 0 0 0 ?_; intro gb608 hg w19 BK608 hb; have GW608 := sg hg; have NB598_608 := nl hg BK598; replace HO601 := Aside0.mk (Kd.R_below (Kd.R_elderB (by (with_reducible repeat (first | apply Kd.R_alloc | apply Kd.R_drewN | apply Kd.R_drew)); exact HO601.out) gb608 (Nat.le_of_eq hg.symm)) hb); replace BK598 := bb BK598 hb; replace HB := bs hb; clear hb hg; obtain ⟨hnb20, hnc20⟩ := zm NB598_608; obtain ⟨hcz21_0, hcz21_1, hcz21_2, hfz21_0, hfz21_1, hfz21_2⟩ := cq3 BK608; obtain ⟨hcz22_0, hcz22_1, hcz22_2, hfz22_0, hfz22_1, hfz22_2⟩ := cq3 BK598))
    go_ret2
    exact ⟨er, bl⟩
   ·replace c10 := Bool.eq_false_iff.mpr c10
    subst c10
    have H1 : (some (false, 0)) = some (r1, r2) := by rw [if_neg (show ¬ (false = true) by decide)] at H; exact H
    clear H
    have H := H1
    clear H1
    simp only [Option.some.injEq, Prod.mk.injEq] at H
    obtain ⟨rfl, rfl⟩ := H
    go_enter Try.func78, Try.ntmps78
    go_wp2_with (first | ((with_reducible refine zg 5 rfl ?_); refine z3 5 27 a1_0 a1_1 a1_2 ?_; intro gb598 hg w23 BK598 hb; have GW598 := sg hg; replace HB := bs hb; clear hb hg; obtain ⟨hcz24_0, hcz24_1, hcz24_2, hfz24_0, hfz24_1, hfz24_2⟩ := cq3 BK598) | ((with_reducible refine zg 16 rfl ?_); refine Kd.R_lit k27 _ 27 ?hg (N := 16) ?hd (xs := ([(⟨a1_0, a1_1, a1_2⟩ : S27)] : List (S27))) (inner := [.int .i64 a1_0, .int .i64 a1_1, .int .i64 a1_2]) (ok := fun _ => True) (okp := fun _ => True) ?hr ?hp (fun _ hk => hk) trivial (Below.refl _ _) (Nat.le_refl _) (by simp) ?_; (case hd => rfl); (case hg => rfl); (case hr => first | (go_simp; done) | (go_simp; rfl)); (case hp => exact (Reps.c3 (show Kd.M k27 _ _ _ (⟨a1_0, a1_1, a1_2⟩ : S27) [.int .i64 a1_0, .int .i64 a1_1, .int .i64 a1_2] from (k27_mkM _ _ _ (⟨a1_0, a1_1, a1_2⟩ : S27) )) (Reps.none _ _))); intro v600 w25 ho26 hb hg_ hnew_; clear hg_ hnew_; (first | rw [← Ny599.out] at ho26 | (simp only [Int.reduceToNat] at ho26; rw [← Ny599.out] at ho26)); have HO601 := Aside0.mk (Kd.R_lower (Kd.R_newB ho26 (g := gb598) (o := .cells #[.int .i64 a1_0, .int .i64 a1_1, .int .i64 a1_2] 27 (0, 0)) (be BK598)) (below_size (bl))); replace BK598 := bb BK598 hb; replace HB := bs hb; clear hb ho26; obtain ⟨Ao27, co27, eo27⟩ := Kd.R_slice HO601.out; subst eo27) | ((with_reducible refine zf 81 rfl ?_); refine g1 (some 17) Try.func81 #[.int .i64 a0, .slice Ao27 y599.length co27] ?_; (with_reducible refine (spec_l01Code.calls k a0 _ _ y599 t602 _ ?side1 ?side2 A5.out).mono ?_); (case side1 => repeat (first | exact (Kd.R_reads' HO601.out).2.2 | (with_reducible refine Kd.C_alloc ?_ _) | (with_reducible refine Kd.C_drewN ?_ _) | (with_reducible refine Kd.C_drew ?_))); (case side2 => exact (Kd.R_reads' HO601.out).2.1); rintro e w28 ⟨rfl, hb⟩; refine ⟨_, rfl, ?_⟩; replace HO601 := Aside0.mk (Kd.R_below (by (with_reducible repeat (first | apply Kd.R_alloc | apply Kd.R_drewN | apply Kd.R_drew)); exact HO601.out) hb); replace BK598 := bb BK598 hb; replace HB := bs hb; (try clear hb)) | ((with_reducible refine zf 129 rfl ?_); refine g1 (some 23) Try.func129 #[.int .i64 a2, .int .i64 a3, .int .i64 1000000] ?_; (with_reducible refine (spec_l01Fraction.calls k a2 a3 1000000 t603 _ A7.out).mono ?_); rintro e w' ⟨rfl, ⟨nd, rfl⟩⟩; refine ⟨_, rfl, ?_⟩; (try (rw [drewN_self w28]; generalize hq_ : World.drewN w28 _ = w28; have n0_ : Aside0 (Kd.R k27 27 w28 w.heap.size (fun k_ => k_ ≠ gb598) (.slice Ao27 y599.length co27) y599) := ⟨by rw [← hq_]; exact (by (with_reducible repeat (first | apply Kd.R_alloc | apply Kd.R_drewN | apply Kd.R_drew)); exact Kd.R_mono HO601.out (fun _ hk => hk.2))⟩; have n1_ : Aside0 (w28.heap[gb598]? = some (.cells #[.int .i64 a1_0, .int .i64 a1_1, .int .i64 a1_2] 27 (0, 0))) := ⟨by rw [← hq_]; exact (be BK598)⟩; have n2_ : Aside0 (Below w.heap.size w w28) := ⟨by rw [← hq_]; exact (bl)⟩; clear HO601 BK598 HB hq_; have HO601 := n0_; have BK598 := n1_; have HB := n2_; clear n0_ n1_ n2_)); obtain ⟨hcz29_0, hcz29_1, hcz29_2, hfz29_0, hfz29_1, hfz29_2⟩ := cq3 BK598) | ((with_reducible refine zf 97 rfl ?_); refine g1 (some 33) Try.func97 #[.int .i64 a0, .int .i64 a2, .int .i64 a3, .int .i64 a1_0] ?_; (with_reducible refine (spec_l01Of.calls k a0 a2 a3 a1_0 t604 t605 t606 false _ A9.out).mono ?_); rintro e w30 ⟨rfl, hb⟩; refine ⟨_, rfl, ?_⟩; replace HO601 := Aside0.mk (Kd.R_below (by (with_reducible repeat (first | apply Kd.R_alloc | apply Kd.R_drewN | apply Kd.R_drew)); exact HO601.out) hb); replace BK598 := bb BK598 hb; replace HB := bs hb; (try clear hb)) | ((with_reducible refine zg 12 rfl ?_); refine z3 12 27 0 0 0 ?_; intro gb608 hg w31 BK608 hb; have GW608 := sg hg; have NB598_608 := nl hg BK598; replace HO601 := Aside0.mk (Kd.R_below (Kd.R_elderB (by (with_reducible repeat (first | apply Kd.R_alloc | apply Kd.R_drewN | apply Kd.R_drew)); exact HO601.out) gb608 (Nat.le_of_eq hg.symm)) hb); replace BK598 := bb BK598 hb; replace HB := bs hb; clear hb hg; obtain ⟨hnb32, hnc32⟩ := zm NB598_608; obtain ⟨hcz33_0, hcz33_1, hcz33_2, hfz33_0, hfz33_1, hfz33_2⟩ := cq3 BK608))
    go_ret2
    exact ⟨er, bl⟩
  ·obtain ⟨c8b0, c8b1⟩ := zy c8
   simp only [Option.some.injEq, Prod.mk.injEq] at H
   obtain ⟨rfl, rfl⟩ := H
   go_enter Try.func78, Try.ntmps78
   go_wp2_with (first | ((with_reducible refine zg 5 rfl ?_); refine z3 5 27 a1_0 a1_1 a1_2 ?_; intro gb598 hg w34 BK598 hb; have GW598 := sg hg; replace HB := bs hb; clear hb hg; obtain ⟨hcz35_0, hcz35_1, hcz35_2, hfz35_0, hfz35_1, hfz35_2⟩ := cq3 BK598) | ((with_reducible refine zg 16 rfl ?_); refine Kd.R_lit k27 _ 27 ?hg (N := 16) ?hd (xs := ([(⟨a1_0, a1_1, a1_2⟩ : S27)] : List (S27))) (inner := [.int .i64 a1_0, .int .i64 a1_1, .int .i64 a1_2]) (ok := fun _ => True) (okp := fun _ => True) ?hr ?hp (fun _ hk => hk) trivial (Below.refl _ _) (Nat.le_refl _) (by simp) ?_; (case hd => rfl); (case hg => rfl); (case hr => first | (go_simp; done) | (go_simp; rfl)); (case hp => exact (Reps.c3 (show Kd.M k27 _ _ _ (⟨a1_0, a1_1, a1_2⟩ : S27) [.int .i64 a1_0, .int .i64 a1_1, .int .i64 a1_2] from (k27_mkM _ _ _ (⟨a1_0, a1_1, a1_2⟩ : S27) )) (Reps.none _ _))); intro v600 w36 ho37 hb hg_ hnew_; clear hg_ hnew_; (first | rw [← Ny599.out] at ho37 | (simp only [Int.reduceToNat] at ho37; rw [← Ny599.out] at ho37)); have HO601 := Aside0.mk (Kd.R_lower (Kd.R_newB ho37 (g := gb598) (o := .cells #[.int .i64 a1_0, .int .i64 a1_1, .int .i64 a1_2] 27 (0, 0)) (be BK598)) (below_size (bl))); replace BK598 := bb BK598 hb; replace HB := bs hb; clear hb ho37; obtain ⟨Ao38, co38, eo38⟩ := Kd.R_slice HO601.out; subst eo38) | ((with_reducible refine zf 81 rfl ?_); refine g1 (some 17) Try.func81 #[.int .i64 a0, .slice Ao38 y599.length co38] ?_; (with_reducible refine (spec_l01Code.calls k a0 _ _ y599 t602 _ ?side1 ?side2 A5.out).mono ?_); (case side1 => repeat (first | exact (Kd.R_reads' HO601.out).2.2 | (with_reducible refine Kd.C_alloc ?_ _) | (with_reducible refine Kd.C_drewN ?_ _) | (with_reducible refine Kd.C_drew ?_))); (case side2 => exact (Kd.R_reads' HO601.out).2.1); rintro e w39 ⟨rfl, hb⟩; refine ⟨_, rfl, ?_⟩; replace HO601 := Aside0.mk (Kd.R_below (by (with_reducible repeat (first | apply Kd.R_alloc | apply Kd.R_drewN | apply Kd.R_drew)); exact HO601.out) hb); replace BK598 := bb BK598 hb; replace HB := bs hb; (try clear hb)) | ((with_reducible refine zf 129 rfl ?_); refine g1 (some 23) Try.func129 #[.int .i64 a2, .int .i64 a3, .int .i64 1000000] ?_; (with_reducible refine (spec_l01Fraction.calls k a2 a3 1000000 t603 _ A7.out).mono ?_); rintro e w' ⟨rfl, ⟨nd, rfl⟩⟩; refine ⟨_, rfl, ?_⟩))
   go_ret2
   exact ⟨er, bl⟩
 ·obtain ⟨c6b0, c6b1⟩ := zy c6
  simp only [Option.some.injEq, Prod.mk.injEq] at H
  obtain ⟨rfl, rfl⟩ := H
  go_enter Try.func78, Try.ntmps78
  go_wp2_with (first | ((with_reducible refine zg 5 rfl ?_); refine z3 5 27 a1_0 a1_1 a1_2 ?_; intro gb598 hg w40 BK598 hb; have GW598 := sg hg; replace HB := bs hb; clear hb hg; obtain ⟨hcz41_0, hcz41_1, hcz41_2, hfz41_0, hfz41_1, hfz41_2⟩ := cq3 BK598) | ((with_reducible refine zg 16 rfl ?_); refine Kd.R_lit k27 _ 27 ?hg (N := 16) ?hd (xs := ([(⟨a1_0, a1_1, a1_2⟩ : S27)] : List (S27))) (inner := [.int .i64 a1_0, .int .i64 a1_1, .int .i64 a1_2]) (ok := fun _ => True) (okp := fun _ => True) ?hr ?hp (fun _ hk => hk) trivial (Below.refl _ _) (Nat.le_refl _) (by simp) ?_; (case hd => rfl); (case hg => rfl); (case hr => first | (go_simp; done) | (go_simp; rfl)); (case hp => exact (Reps.c3 (show Kd.M k27 _ _ _ (⟨a1_0, a1_1, a1_2⟩ : S27) [.int .i64 a1_0, .int .i64 a1_1, .int .i64 a1_2] from (k27_mkM _ _ _ (⟨a1_0, a1_1, a1_2⟩ : S27) )) (Reps.none _ _))); intro v600 w42 ho43 hb hg_ hnew_; clear hg_ hnew_; (first | rw [← Ny599.out] at ho43 | (simp only [Int.reduceToNat] at ho43; rw [← Ny599.out] at ho43)); have HO601 := Aside0.mk (Kd.R_lower (Kd.R_newB ho43 (g := gb598) (o := .cells #[.int .i64 a1_0, .int .i64 a1_1, .int .i64 a1_2] 27 (0, 0)) (be BK598)) (below_size (bl))); replace BK598 := bb BK598 hb; replace HB := bs hb; clear hb ho43; obtain ⟨Ao44, co44, eo44⟩ := Kd.R_slice HO601.out; subst eo44) | ((with_reducible refine zf 81 rfl ?_); refine g1 (some 17) Try.func81 #[.int .i64 a0, .slice Ao44 y599.length co44] ?_; (with_reducible refine (spec_l01Code.calls k a0 _ _ y599 t602 _ ?side1 ?side2 A5.out).mono ?_); (case side1 => repeat (first | exact (Kd.R_reads' HO601.out).2.2 | (with_reducible refine Kd.C_alloc ?_ _) | (with_reducible refine Kd.C_drewN ?_ _) | (with_reducible refine Kd.C_drew ?_))); (case side2 => exact (Kd.R_reads' HO601.out).2.1); rintro e w45 ⟨rfl, hb⟩; refine ⟨_, rfl, ?_⟩; replace HO601 := Aside0.mk (Kd.R_below (by (with_reducible repeat (first | apply Kd.R_alloc | apply Kd.R_drewN | apply Kd.R_drew)); exact HO601.out) hb); replace BK598 := bb BK598 hb; replace HB := bs hb; (try clear hb)))
  go_ret2
  exact ⟨er, bl⟩

/-! ### spec_DrawHoldsBall: function 79 -/
def spec_DrawHoldsBall.f (k : Nat) (l0 : List Int) : Option (Int × Int × Int × Int × Int × Int × Int) := (spec_l01Two.f k l0).bind fun bt611 => (some (bt611.1, bt611.2.2.2.2.1, bt611.2.2.2.2.2.1, bt611.2.2.2.2.2.2, bt611.2.1, bt611.2.2.1, bt611.2.2.2.1))
set_option maxHeartbeats 8000000 in
set_option maxRecDepth 100000 in
theorem spec_DrawHoldsBall.calls (k : Nat) (A0 : Option Addr) (c0 : Nat) (l0 : List Int) (r1 : Int) (r2 : Int) (r3 : Int) (r4 : Int) (r5 : Int) (r6 : Int) (r7 : Int) (w : World) (hr0 : Kd.C (Kd.int .u8) w A0 l0.length l0) (hc0 : l0.length ≤ c0) (h : spec_DrawHoldsBall.f k l0 = some (r1, r2, r3, r4, r5, r6, r7)) :
  Calls Try.prog 79 #[.slice A0 l0.length c0] w fun e w' => e = .returned (.tuple #[.int .i64 r1, .agg #[.int .i64 r2, .int .i64 r3, .int .i64 r4], .agg #[.int .i64 r5, .int .i64 r6, .int .i64 r7]]) ∧ Below w.heap.size w w' := by
 have hu27 := Try.underlying27
 have HR0 := Aside0.mk hr0
 have HC0 := Aside0.mk hc0
 clear hr0 hc0
 have HB := Aside0.mk (Below.refl w.heap.size w)
 unfold spec_DrawHoldsBall.f at h
 have H := h
 clear h
 replace H := zi H
 obtain ⟨⟨t611, t612, t613, t614, t615, t616, t617⟩, A2, H⟩ := H
 try dsimp only at H
 simp only [Option.some.injEq, Prod.mk.injEq] at H
 obtain ⟨rfl, rfl, rfl, rfl, rfl, rfl, rfl⟩ := H
 go_enter Try.func79, Try.ntmps79
 try go_wp2_with (first | ((with_reducible refine zg 3 rfl ?_); refine z3 3 27 0 0 0 ?_; intro gb609 hg w3 BK609 hb; have GW609 := sg hg; replace HB := bs hb; clear hb hg) | ((with_reducible refine zg 4 rfl ?_); refine z3 4 27 0 0 0 ?_; intro gb610 hg w4 BK610 hb; have GW610 := sg hg; have NB609_610 := nl hg BK609; replace BK609 := bb BK609 hb; replace HB := bs hb; clear hb hg) | ((with_reducible refine zf 92 rfl ?_); refine g1 (some 10) Try.func92 #[.slice A0 l0.length c0] ?_; (with_reducible refine (spec_l01Two.calls k _ _ l0 t611 t612 t613 t614 t615 t616 t617 _ ?side1 ?side2 A2.out).mono ?_); (case side1 => repeat (first | exact (Kd.C_below HR0.out HB.out) | (with_reducible refine Kd.C_alloc ?_ _) | (with_reducible refine Kd.C_drewN ?_ _) | (with_reducible refine Kd.C_drew ?_))); (case side2 => exact HC0.out); rintro e w5 ⟨rfl, hb⟩; refine ⟨_, rfl, ?_⟩; replace BK609 := bb BK609 hb; replace BK610 := bb BK610 hb; replace HB := bs hb; (try clear hb)) | ((with_reducible refine zg 6 rfl ?_); refine z3 6 27 0 0 0 ?_; intro gb618 hg w6 BK618 hb; have GW618 := sg hg; have NB609_618 := nl hg BK609; have NB610_618 := nl hg BK610; replace BK609 := bb BK609 hb; replace BK610 := bb BK610 hb; replace HB := bs hb; clear hb hg) | ((with_reducible refine zg 7 rfl ?_); refine z3 7 27 0 0 0 ?_; intro gb619 hg w7 BK619 hb; have GW619 := sg hg; have NB609_619 := nl hg BK609; have NB610_619 := nl hg BK610; have NB618_619 := nl hg BK618; replace BK609 := bb BK609 hb; replace BK610 := bb BK610 hb; replace BK618 := bb BK618 hb; replace HB := bs hb; clear hb hg; obtain ⟨hnb8, hnc8⟩ := zm NB609_618; obtain ⟨hnb9, hnc9⟩ := zm NB610_618; obtain ⟨hnb10, hnc10⟩ := zn NB618_619; obtain ⟨hcz11_0, hcz11_1, hcz11_2, hfz11_0, hfz11_1, hfz11_2⟩ := cq3 BK618; obtain ⟨hnb12, hnc12⟩ := zm NB609_619; obtain ⟨hnb13, hnc13⟩ := zm NB610_619; obtain ⟨hcz14_0, hcz14_1, hcz14_2, hfz14_0, hfz14_1, hfz14_2⟩ := cq3 BK619))
 have n0_ : Aside0 (((((((w7.setCell ⟨gb618, 0, none⟩ (.int .i64 t612)).setCell ⟨gb618, 1, none⟩ (.int .i64 t613)).setCell ⟨gb618, 2, none⟩ (.int .i64 t614)).setCell ⟨gb619, 0, none⟩ (.int .i64 t615)).setCell ⟨gb619, 1, none⟩ (.int .i64 t616)).setCell ⟨gb619, 2, none⟩ (.int .i64 t617)).heap[gb609]? = some (.cells #[.int .i64 0, .int .i64 0, .int .i64 0] 27 (0, 0))) := ⟨bp⟩
 have n1_ : Aside0 (((((((w7.setCell ⟨gb618, 0, none⟩ (.int .i64 t612)).setCell ⟨gb618, 1, none⟩ (.int .i64 t613)).setCell ⟨gb618, 2, none⟩ (.int .i64 t614)).setCell ⟨gb619, 0, none⟩ (.int .i64 t615)).setCell ⟨gb619, 1, none⟩ (.int .i64 t616)).setCell ⟨gb619, 2, none⟩ (.int .i64 t617)).heap[gb610]? = some (.cells #[.int .i64 0, .int .i64 0, .int .i64 0] 27 (0, 0))) := ⟨bp⟩
 have n2_ : Aside0 (((((((w7.setCell ⟨gb618, 0, none⟩ (.int .i64 t612)).setCell ⟨gb618, 1, none⟩ (.int .i64 t613)).setCell ⟨gb618, 2, none⟩ (.int .i64 t614)).setCell ⟨gb619, 0, none⟩ (.int .i64 t615)).setCell ⟨gb619, 1, none⟩ (.int .i64 t616)).setCell ⟨gb619, 2, none⟩ (.int .i64 t617)).heap[gb618]? = some (.cells #[.int .i64 t612, .int .i64 t613, .int .i64 t614] 27 (0, 0))) := ⟨bp⟩
 have n3_ : Aside0 (((((((w7.setCell ⟨gb618, 0, none⟩ (.int .i64 t612)).setCell ⟨gb618, 1, none⟩ (.int .i64 t613)).setCell ⟨gb618, 2, none⟩ (.int .i64 t614)).setCell ⟨gb619, 0, none⟩ (.int .i64 t615)).setCell ⟨gb619, 1, none⟩ (.int .i64 t616)).setCell ⟨gb619, 2, none⟩ (.int .i64 t617)).heap[gb619]? = some (.cells #[.int .i64 t615, .int .i64 t616, .int .i64 t617] 27 (0, 0))) := ⟨bp⟩
 have n4_ : Aside0 (Below w.heap.size w ((((((w7.setCell ⟨gb618, 0, none⟩ (.int .i64 t612)).setCell ⟨gb618, 1, none⟩ (.int .i64 t613)).setCell ⟨gb618, 2, none⟩ (.int .i64 t614)).setCell ⟨gb619, 0, none⟩ (.int .i64 t615)).setCell ⟨gb619, 1, none⟩ (.int .i64 t616)).setCell ⟨gb619, 2, none⟩ (.int .i64 t617))) := ⟨bl⟩
 (try clear BK609)
 (try clear BK610)
 (try clear BK618)
 (try clear BK619)
 (try clear HB)
 generalize ((((((w7.setCell ⟨gb618, 0, none⟩ (.int .i64 t612)).setCell ⟨gb618, 1, none⟩ (.int .i64 t613)).setCell ⟨gb618, 2, none⟩ (.int .i64 t614)).setCell ⟨gb619, 0, none⟩ (.int .i64 t615)).setCell ⟨gb619, 1, none⟩ (.int .i64 t616)).setCell ⟨gb619, 2, none⟩ (.int .i64 t617)) = w15 at n0_ n1_ n2_ n3_ n4_ ⊢
 have BK609 := n0_
 have BK610 := n1_
 have BK618 := n2_
 have BK619 := n3_
 have HB := n4_
 clear n0_ n1_ n2_ n3_ n4_
 replace BK609 := Aside0.mk (blk_drew BK609.out)
 replace BK610 := Aside0.mk (blk_drew BK610.out)
 replace BK618 := Aside0.mk (blk_drew BK618.out)
 replace BK619 := Aside0.mk (blk_drew BK619.out)
 replace HB := Aside0.mk (below_drew1 HB.out)
 refine start_ (n := 6) (S := fun w' => w'.cell? ⟨gb619, 0, none⟩ = some (.int .i64 t615) ∧ w'.cell? ⟨gb619, 1, none⟩ = some (.int .i64 t616) ∧ w'.cell? ⟨gb619, 2, none⟩ = some (.int .i64 t617) ∧ w'.cell? ⟨gb618, 0, none⟩ = some (.int .i64 t612) ∧ w'.cell? ⟨gb618, 1, none⟩ = some (.int .i64 t613) ∧ w'.cell? ⟨gb618, 2, none⟩ = some (.int .i64 t614)) (ds := []) (tA 6 0) (by kernel_rfl) rfl rfl ⟨(blk_cell BK619.out 0).trans rfl, (blk_cell BK619.out 1).trans rfl, (blk_cell BK619.out 2).trans rfl, (blk_cell BK618.out 0).trans rfl, (blk_cell BK618.out 1).trans rfl, (blk_cell BK618.out 2).trans rfl⟩ (fun hHeld => ?_)
 generalize w15.drew = w16 at BK609 BK610 BK618 BK619 HB hHeld ⊢
 refine pr 0 (some 14) (tA 6 1) ?_
 refine pr 3 (some 2) (tA 6 9) ?_
 refine tr6 1 (some 15) (tA 6 11) hHeld ?_
 refine tr6 2 (some 16) (tA 6 15) hHeld ?_
 refine one_ (i := 4) (N := none) (tA 6 31) rfl rfl (by kernel_rfl) (by decide) (fun K hK => ?_)
 have hs17 : w16.cell? ⟨gb609, 0, none⟩ = some (.int .i64 0) := (blk_cell BK609.out 0).trans rfl
 have hfs17 := blk_frozen BK609.out 0
 have hns17_1 := NB609_610.out.symm
 have hns17_2 := NB609_618.out.symm
 have hns17_3 := NB609_619.out.symm
 have hms17_1 := NB609_610.out
 have hms17_2 := NB609_618.out
 have hms17_3 := NB609_619.out
 have hs18 : w16.cell? ⟨gb609, 1, none⟩ = some (.int .i64 0) := (blk_cell BK609.out 1).trans rfl
 have hfs18 := blk_frozen BK609.out 1
 have hns18_1 := NB609_610.out.symm
 have hns18_2 := NB609_618.out.symm
 have hns18_3 := NB609_619.out.symm
 have hms18_1 := NB609_610.out
 have hms18_2 := NB609_618.out
 have hms18_3 := NB609_619.out
 have hs19 : w16.cell? ⟨gb609, 2, none⟩ = some (.int .i64 0) := (blk_cell BK609.out 2).trans rfl
 have hfs19 := blk_frozen BK609.out 2
 have hns19_1 := NB609_610.out.symm
 have hns19_2 := NB609_618.out.symm
 have hns19_3 := NB609_619.out.symm
 have hms19_1 := NB609_610.out
 have hms19_2 := NB609_618.out
 have hms19_3 := NB609_619.out
 refine skip_ (w1 := ?_) (by rfl) rfl ?_ ?_
 rotate_left
 ·go_simp
  rfl
 refine hK.out _ _ (m3r hHeld (fun e => cs gb609 NB609_619 (cs gb609 NB609_619 (cs gb609 NB609_619 e))) (m3 hHeld.2.2.2 (fun e => cs gb609 NB609_618 (cs gb609 NB609_618 (cs gb609 NB609_618 e))))) (fun hHeld => ?_)
 clear hK K
 refine one_ (i := 5) (N := none) (tA 6 63) rfl rfl (by kernel_rfl) (by decide) (fun K hK => ?_)
 have hs20 : w16.cell? ⟨gb610, 0, none⟩ = some (.int .i64 0) := (blk_cell BK610.out 0).trans rfl
 have hfs20 := blk_frozen BK610.out 0
 have hns20_0 := NB609_610.out
 have hns20_2 := NB610_618.out.symm
 have hns20_3 := NB610_619.out.symm
 have hms20_0 := NB609_610.out.symm
 have hms20_2 := NB610_618.out
 have hms20_3 := NB610_619.out
 have hs21 : w16.cell? ⟨gb610, 1, none⟩ = some (.int .i64 0) := (blk_cell BK610.out 1).trans rfl
 have hfs21 := blk_frozen BK610.out 1
 have hns21_0 := NB609_610.out
 have hns21_2 := NB610_618.out.symm
 have hns21_3 := NB610_619.out.symm
 have hms21_0 := NB609_610.out.symm
 have hms21_2 := NB610_618.out
 have hms21_3 := NB610_619.out
 have hs22 : w16.cell? ⟨gb610, 2, none⟩ = some (.int .i64 0) := (blk_cell BK610.out 2).trans rfl
 have hfs22 := blk_frozen BK610.out 2
 have hns22_0 := NB609_610.out
 have hns22_2 := NB610_618.out.symm
 have hns22_3 := NB610_619.out.symm
 have hms22_0 := NB609_610.out.symm
 have hms22_2 := NB610_618.out
 have hms22_3 := NB610_619.out
 refine skip_ (w1 := ?_) (by rfl) rfl ?_ ?_
 rotate_left
 ·go_simp
  rfl
 refine hK.out _ _ (m3r hHeld (fun e => cs gb610 NB610_619 (cs gb610 NB610_619 (cs gb610 NB610_619 e))) (m3 hHeld.2.2.2 (fun e => cs gb610 NB610_618 (cs gb610 NB610_618 (cs gb610 NB610_618 e))))) (fun hHeld => ?_)
 clear hK K
 refine done_ (by kernel_rfl) ?_
 try go_wp2
 refine bodyPost_ret (results_list (rs := [.tmp 2, .cell 3 27, .cell 4 27]) rfl (by simp) (.tmp (.cell gb609 27 #[.int .i64 t615, .int .i64 t616, .int .i64 t617] (0, 0) _ rfl (bp) Try.underlying27 rfl (by kernel_rfl) (.cell gb610 27 #[.int .i64 t612, .int .i64 t613, .int .i64 t614] (0, 0) _ rfl (bp) Try.underlying27 rfl (by kernel_rfl) .nil)))) rfl ?_
 exact ⟨er, bl⟩

/-! ### spec_HoldsBall: function 80 -/
def spec_HoldsBall.f (k : Nat) (a0 : Int) (a1_0 : Int) (a1_1 : Int) (a1_2 : Int) (a2_0 : Int) (a2_1 : Int) (a2_2 : Int) : Option (Bool × Int) := (spec_l01Code.f k a0 (([(⟨a1_0, a1_1, a1_2⟩ : S27), (⟨a2_0, a2_1, a2_2⟩ : S27)] : List (S27)))).bind fun t625 => (if t625 = 0 then ((spec_l01Holds.f k a0 a1_0 a1_1 a1_2 a2_0 a2_1 a2_2).bind fun t626 => (some (t626, 0))) else (some (false, t625)))
set_option maxHeartbeats 8000000 in
set_option maxRecDepth 100000 in
theorem spec_HoldsBall.calls (k : Nat) (a0 : Int) (a1_0 : Int) (a1_1 : Int) (a1_2 : Int) (a2_0 : Int) (a2_1 : Int) (a2_2 : Int) (r1 : Bool) (r2 : Int) (w : World) (h : spec_HoldsBall.f k a0 a1_0 a1_1 a1_2 a2_0 a2_1 a2_2 = some (r1, r2)) :
  Calls Try.prog 80 #[.int .i64 a0, .agg #[.int .i64 a1_0, .int .i64 a1_1, .int .i64 a1_2], .agg #[.int .i64 a2_0, .int .i64 a2_1, .int .i64 a2_2]] w fun e w' => e = .returned (.tuple #[.bool r1, .int .i64 r2]) ∧ Below w.heap.size w w' := by
 have hu27 := Try.underlying27
 have HB := Aside0.mk (Below.refl w.heap.size w)
 unfold spec_HoldsBall.f at h
 have H := h
 clear h
 obtain ⟨y622, hy622⟩ : ∃ y_ : List (S27), y_ = (([(⟨a1_0, a1_1, a1_2⟩ : S27), (⟨a2_0, a2_1, a2_2⟩ : S27)] : List (S27))) := ⟨_, rfl⟩
 replace H : ((spec_l01Code.f k a0 y622).bind fun t625 => (if t625 = 0 then ((spec_l01Holds.f k a0 a1_0 a1_1 a1_2 a2_0 a2_1 a2_2).bind fun t626 => (some (t626, 0))) else (some (false, t625)))) = some (r1, r2) := by first | exact hy622 ▸ H | exact H
 have Ny622 := Aside0.mk hy622
 clear hy622
 replace H := zi H
 obtain ⟨t625, A4, H⟩ := H
 try dsimp only at H
 replace H := ii H
 rcases H with ⟨c5, H⟩ | ⟨c5, H⟩
 ·obtain ⟨c5b0, c5b1⟩ := zz c5
  clear c5
  replace H := zi H
  obtain ⟨t626, A6, H⟩ := H
  try dsimp only at H
  simp only [Option.some.injEq, Prod.mk.injEq] at H
  obtain ⟨rfl, rfl⟩ := H
  go_enter Try.func80, Try.ntmps80
  go_wp2_with (first | ((with_reducible refine zg 4 rfl ?_); refine z3 4 27 a1_0 a1_1 a1_2 ?_; intro gb620 hg w7 BK620 hb; have GW620 := sg hg; replace HB := bs hb; clear hb hg) | ((with_reducible refine zg 5 rfl ?_); refine z3 5 27 a2_0 a2_1 a2_2 ?_; intro gb621 hg w8 BK621 hb; have GW621 := sg hg; have NB620_621 := nl hg BK620; replace BK620 := bb BK620 hb; replace HB := bs hb; clear hb hg; obtain ⟨hnb9, hnc9⟩ := zn NB620_621; obtain ⟨hcz10_0, hcz10_1, hcz10_2, hfz10_0, hfz10_1, hfz10_2⟩ := cq3 BK620; obtain ⟨hcz11_0, hcz11_1, hcz11_2, hfz11_0, hfz11_1, hfz11_2⟩ := cq3 BK621) | ((with_reducible refine zg 12 rfl ?_); refine Kd.R_lit k27 _ 27 ?hg (N := 12) ?hd (xs := ([(⟨a1_0, a1_1, a1_2⟩ : S27), (⟨a2_0, a2_1, a2_2⟩ : S27)] : List (S27))) (inner := [.int .i64 a1_0, .int .i64 a1_1, .int .i64 a1_2, .int .i64 a2_0, .int .i64 a2_1, .int .i64 a2_2]) (ok := fun _ => True) (okp := fun _ => True) ?hr ?hp (fun _ hk => hk) trivial (Below.refl _ _) (Nat.le_refl _) (by simp) ?_; (case hd => rfl); (case hg => rfl); (case hr => first | (go_simp; done) | (go_simp; rfl)); (case hp => exact (Reps.c3 (show Kd.M k27 _ _ _ (⟨a1_0, a1_1, a1_2⟩ : S27) [.int .i64 a1_0, .int .i64 a1_1, .int .i64 a1_2] from (k27_mkM _ _ _ (⟨a1_0, a1_1, a1_2⟩ : S27) )) (Reps.c3 (show Kd.M k27 _ _ _ (⟨a2_0, a2_1, a2_2⟩ : S27) [.int .i64 a2_0, .int .i64 a2_1, .int .i64 a2_2] from (k27_mkM _ _ _ (⟨a2_0, a2_1, a2_2⟩ : S27) )) (Reps.none _ _)))); intro v623 w12 ho13 hb hg_ hnew_; clear hg_ hnew_; (first | rw [← Ny622.out] at ho13 | (simp only [Int.reduceToNat] at ho13; rw [← Ny622.out] at ho13)); have HO624 := Aside0.mk (Kd.R_lower (Kd.R_newB (Kd.R_newB ho13 (g := gb620) (o := .cells #[.int .i64 a1_0, .int .i64 a1_1, .int .i64 a1_2] 27 (0, 0)) (be BK620)) (g := gb621) (o := .cells #[.int .i64 a2_0, .int .i64 a2_1, .int .i64 a2_2] 27 (0, 0)) (be BK621)) (below_size (bl))); replace BK620 := bb BK620 hb; replace BK621 := bb BK621 hb; replace HB := bs hb; clear hb ho13; obtain ⟨Ao14, co14, eo14⟩ := Kd.R_slice HO624.out; subst eo14) | ((with_reducible refine zf 81 rfl ?_); refine g1 (some 13) Try.func81 #[.int .i64 a0, .slice Ao14 y622.length co14] ?_; (with_reducible refine (spec_l01Code.calls k a0 _ _ y622 t625 _ ?side1 ?side2 A4.out).mono ?_); (case side1 => repeat (first | exact (Kd.R_reads' HO624.out).2.2 | (with_reducible refine Kd.C_alloc ?_ _) | (with_reducible refine Kd.C_drewN ?_ _) | (with_reducible refine Kd.C_drew ?_))); (case side2 => exact (Kd.R_reads' HO624.out).2.1); rintro e w15 ⟨rfl, hb⟩; refine ⟨_, rfl, ?_⟩; replace HO624 := Aside0.mk (Kd.R_below (by (with_reducible repeat (first | apply Kd.R_alloc | apply Kd.R_drewN | apply Kd.R_drew)); exact HO624.out) hb); replace BK620 := bb BK620 hb; replace BK621 := bb BK621 hb; replace HB := bs hb; (try clear hb); obtain ⟨hcz16_0, hcz16_1, hcz16_2, hfz16_0, hfz16_1, hfz16_2⟩ := cq3 BK620; obtain ⟨hcz17_0, hcz17_1, hcz17_2, hfz17_0, hfz17_1, hfz17_2⟩ := cq3 BK621) | ((with_reducible refine zf 136 rfl ?_); refine g1 (some 20) Try.func136 #[.int .i64 a0, .agg #[.int .i64 a1_0, .int .i64 a1_1, .int .i64 a1_2], .agg #[.int .i64 a2_0, .int .i64 a2_1, .int .i64 a2_2]] ?_; (with_reducible refine (spec_l01Holds.calls k a0 a1_0 a1_1 a1_2 a2_0 a2_1 a2_2 t626 _ A6.out).mono ?_); rintro e w18 ⟨rfl, hb⟩; refine ⟨_, rfl, ?_⟩; replace HO624 := Aside0.mk (Kd.R_below (by (with_reducible repeat (first | apply Kd.R_alloc | apply Kd.R_drewN | apply Kd.R_drew)); exact HO624.out) hb); replace BK620 := bb BK620 hb; replace BK621 := bb BK621 hb; replace HB := bs hb; (try clear hb)))
  go_ret2
  exact ⟨er, bl⟩
 ·obtain ⟨c5b0, c5b1⟩ := zy c5
  simp only [Option.some.injEq, Prod.mk.injEq] at H
  obtain ⟨rfl, rfl⟩ := H
  go_enter Try.func80, Try.ntmps80
  go_wp2_with (first | ((with_reducible refine zg 4 rfl ?_); refine z3 4 27 a1_0 a1_1 a1_2 ?_; intro gb620 hg w19 BK620 hb; have GW620 := sg hg; replace HB := bs hb; clear hb hg) | ((with_reducible refine zg 5 rfl ?_); refine z3 5 27 a2_0 a2_1 a2_2 ?_; intro gb621 hg w20 BK621 hb; have GW621 := sg hg; have NB620_621 := nl hg BK620; replace BK620 := bb BK620 hb; replace HB := bs hb; clear hb hg; obtain ⟨hnb21, hnc21⟩ := zn NB620_621; obtain ⟨hcz22_0, hcz22_1, hcz22_2, hfz22_0, hfz22_1, hfz22_2⟩ := cq3 BK620; obtain ⟨hcz23_0, hcz23_1, hcz23_2, hfz23_0, hfz23_1, hfz23_2⟩ := cq3 BK621) | ((with_reducible refine zg 12 rfl ?_); refine Kd.R_lit k27 _ 27 ?hg (N := 12) ?hd (xs := ([(⟨a1_0, a1_1, a1_2⟩ : S27), (⟨a2_0, a2_1, a2_2⟩ : S27)] : List (S27))) (inner := [.int .i64 a1_0, .int .i64 a1_1, .int .i64 a1_2, .int .i64 a2_0, .int .i64 a2_1, .int .i64 a2_2]) (ok := fun _ => True) (okp := fun _ => True) ?hr ?hp (fun _ hk => hk) trivial (Below.refl _ _) (Nat.le_refl _) (by simp) ?_; (case hd => rfl); (case hg => rfl); (case hr => first | (go_simp; done) | (go_simp; rfl)); (case hp => exact (Reps.c3 (show Kd.M k27 _ _ _ (⟨a1_0, a1_1, a1_2⟩ : S27) [.int .i64 a1_0, .int .i64 a1_1, .int .i64 a1_2] from (k27_mkM _ _ _ (⟨a1_0, a1_1, a1_2⟩ : S27) )) (Reps.c3 (show Kd.M k27 _ _ _ (⟨a2_0, a2_1, a2_2⟩ : S27) [.int .i64 a2_0, .int .i64 a2_1, .int .i64 a2_2] from (k27_mkM _ _ _ (⟨a2_0, a2_1, a2_2⟩ : S27) )) (Reps.none _ _)))); intro v623 w24 ho25 hb hg_ hnew_; clear hg_ hnew_; (first | rw [← Ny622.out] at ho25 | (simp only [Int.reduceToNat] at ho25; rw [← Ny622.out] at ho25)); have HO624 := Aside0.mk (Kd.R_lower (Kd.R_newB (Kd.R_newB ho25 (g := gb620) (o := .cells #[.int .i64 a1_0, .int .i64 a1_1, .int .i64 a1_2] 27 (0, 0)) (be BK620)) (g := gb621) (o := .cells #[.int .i64 a2_0, .int .i64 a2_1, .int .i64 a2_2] 27 (0, 0)) (be BK621)) (below_size (bl))); replace BK620 := bb BK620 hb; replace BK621 := bb BK621 hb; replace HB := bs hb; clear hb ho25; obtain ⟨Ao26, co26, eo26⟩ := Kd.R_slice HO624.out; subst eo26) | ((with_reducible refine zf 81 rfl ?_); refine g1 (some 13) Try.func81 #[.int .i64 a0, .slice Ao26 y622.length co26] ?_; (with_reducible refine (spec_l01Code.calls k a0 _ _ y622 t625 _ ?side1 ?side2 A4.out).mono ?_); (case side1 => repeat (first | exact (Kd.R_reads' HO624.out).2.2 | (with_reducible refine Kd.C_alloc ?_ _) | (with_reducible refine Kd.C_drewN ?_ _) | (with_reducible refine Kd.C_drew ?_))); (case side2 => exact (Kd.R_reads' HO624.out).2.1); rintro e w27 ⟨rfl, hb⟩; refine ⟨_, rfl, ?_⟩; replace HO624 := Aside0.mk (Kd.R_below (by (with_reducible repeat (first | apply Kd.R_alloc | apply Kd.R_drewN | apply Kd.R_drew)); exact HO624.out) hb); replace BK620 := bb BK620 hb; replace BK621 := bb BK621 hb; replace HB := bs hb; (try clear hb)))
  go_ret2
  exact ⟨er, bl⟩

end Go.Proofs.Ytpmepopagapeiaa.PFnBalls

-- Printed by the kit's print and repaired by a program of this session.
import Derived.Test.YtpmepopagapeiaaPFnBallsx0
import Derived.Test.YtpmepopagapeiaaPFnBallsx3
import Derived.Test.YtpmepopagapeiaaPFnBallsx5
import Derived.Test.YtpmepopagapeiaaPFnBallsx7
import Derived.Test.YtpmepopagapeiaaPFnBallsx8
import Derived.Test.YtpmepopagapeiaaPFnBallsx10
import Derived.Test.YtpmepopagapeiaaPFnBallsx11
namespace Go.Proofs.Ytpmepopagapeiaa.PFnBalls
open Go.RowKit Go.Proofs.YtpmepopagapeiaaW.PrintWords Go.Proofs.YtpmepopagapeiaaW.PrintLast Go.Proofs.YtpmepopagapeiaaW.PrintMore
attribute [local go_sem] max2_int min2_int max_two min_two max_three min_three max_four min_four
set_option linter.unusedVariables false
set_option linter.unusedSimpArgs false

/-! ### spec_IsBall: function 69 -/
def spec_IsBall.f (k : Nat) (a0 : Int) (a1_0 : Int) (a1_1 : Int) (a1_2 : Int) : Option (Bool) := (spec_l01Is.f k a0 a1_0 a1_1 a1_2).bind fun t455 => (some t455)
set_option maxHeartbeats 8000000 in
set_option maxRecDepth 100000 in
theorem spec_IsBall.calls (k : Nat) (a0 : Int) (a1_0 : Int) (a1_1 : Int) (a1_2 : Int) (r : Bool) (w : World) (h : spec_IsBall.f k a0 a1_0 a1_1 a1_2 = some r) :
  Calls Try.prog 69 #[.int .i64 a0, .agg #[.int .i64 a1_0, .int .i64 a1_1, .int .i64 a1_2]] w fun e w' => e = .returned (.bool r) ∧ Below w.heap.size w w' := by
 have hu27 := Try.underlying27
 have HB := Aside0.mk (Below.refl w.heap.size w)
 unfold spec_IsBall.f at h
 have H := h
 clear h
 replace H := zi H
 obtain ⟨t455, A3, H⟩ := H
 try dsimp only at H
 obtain rfl := Option.some.inj H
 go_enter Try.func69, Try.ntmps69
 go_wp2_with (first | ((with_reducible refine zg 3 rfl ?_); refine z3 3 27 a1_0 a1_1 a1_2 ?_; intro gb454 hg w4 BK454 hb; have GW454 := sg hg; replace HB := bs hb; clear hb hg; obtain ⟨hcz5_0, hcz5_1, hcz5_2, hfz5_0, hfz5_1, hfz5_2⟩ := cq3 BK454) | ((with_reducible refine zf 134 rfl ?_); refine g1 (some 7) Try.func134 #[.int .i64 a0, .agg #[.int .i64 a1_0, .int .i64 a1_1, .int .i64 a1_2]] ?_; (with_reducible refine (spec_l01Is.calls k a0 a1_0 a1_1 a1_2 t455 _ A3.out).mono ?_); rintro e w6 ⟨rfl, hb⟩; refine ⟨_, rfl, ?_⟩; replace BK454 := bb BK454 hb; replace HB := bs hb; (try clear hb)))
 go_ret
 exact ⟨er, bl⟩

/-! ### impl_BallOfEnd: function 70 -/
def impl_BallOfEnd.j0 : Nat → Int → Int → Bool → Int → Int → Option (Int × Int × Int × Int)
 | 0, _, _, _, _, _ => none
 | k + 1, x0, x2, x8, x457000, x457001 => if x8 = true then (some (0, 0, 0, 1)) else ((impl_isLevel.f x2).bind fun t460 => (if t460 = true then (if x457001 = 0 then (some (0, 0, 0, 5)) else ((impl_ballAt.f k x0 x457000 x457001 x2).bind fun bt461 => ((impl_fitted.f bt461.1 bt461.2.1 bt461.2.2.1 bt461.2.2.2).bind fun bt465 => (some (bt465.1, bt465.2.1, bt465.2.2.1, bt465.2.2.2))))) else (some (0, 0, 0, 2))))
def impl_BallOfEnd.f (k : Nat) (a0 : Int) (a1_0 : Int) (a1_1 : Int) (a2 : Int) : Option (Int × Int × Int × Int) := (impl_isPrime.f a0).bind fun t458 => (if t458 = true then ((impl_IsEnd.f k a1_0 a1_1).bind fun t459 => (impl_BallOfEnd.j0 k a0 a2 (!t459) a1_0 a1_1)) else (impl_BallOfEnd.j0 k a0 a2 true a1_0 a1_1))
set_option maxHeartbeats 8000000 in
set_option maxRecDepth 100000 in
theorem impl_BallOfEnd.calls (k : Nat) (a0 : Int) (a1_0 : Int) (a1_1 : Int) (a2 : Int) (r1 : Int) (r2 : Int) (r3 : Int) (r4 : Int) (w : World) (h : impl_BallOfEnd.f k a0 a1_0 a1_1 a2 = some (r1, r2, r3, r4)) :
  Calls Try.prog 70 #[.int .i64 a0, .agg #[.int .i64 a1_0, .int .i64 a1_1], .int .i64 a2] w fun e w' => e = .returned (.tuple #[.agg #[.int .i64 r1, .int .i64 r2, .int .i64 r3], .int .i64 r4]) ∧ Below w.heap.size w w' := by
 have hu63 := Try.underlying63
 have hu27 := Try.underlying27
 have HB := Aside0.mk (Below.refl w.heap.size w)
 unfold impl_BallOfEnd.f at h
 have H := h
 clear h
 have HC4 := Aside0.mk H
 clear H
 go_enter Try.func70, Try.ntmps70
 go_upto_region 1 with (first | ((with_reducible refine zg 4 rfl ?_); refine zb 4 63 #[.int .i64 a1_0, .int .i64 a1_1] ?_; intro gb456 hg w5 BK456 hb; have GW456 := sg hg; replace HB := bs hb; clear hb hg) | ((with_reducible refine zg 6 rfl ?_); refine z3 6 27 0 0 0 ?_; intro gb457 hg w6 BK457 hb; have GW457 := sg hg; have NB456_457 := nl hg BK456; replace BK456 := bb BK456 hb; replace HB := bs hb; clear hb hg))
 (try simp only [Act.put, zq, zr, zt])
 go_cut [8] (fun v8 wc => ∃ (kq : Nat) (x8_3 : Bool), v8 = .bool x8_3 ∧ Aside0 (impl_BallOfEnd.j0 kq a0 a2 x8_3 a1_0 a1_1 = some (r1, r2, r3, r4)) ∧ Aside0 (kq ≤ k) ∧ Aside0 (wc.heap[gb456]? = some (.cells #[.int .i64 a1_0, .int .i64 a1_1] 63 (0, 0))) ∧ Aside0 (wc.heap[gb457]? = some (.cells #[.int .i64 0, .int .i64 0, .int .i64 0] 27 (0, 0))) ∧ Aside0 (Below w.heap.size w wc))
 case first =>
  have H := HC4.out
  clear HC4
  replace H := zi H
  obtain ⟨t458, A7, H⟩ := H
  try dsimp only at H
  by_cases c8 : t458 = true
  ·subst c8
   rw [if_pos rfl] at H
   replace H := zi H
   obtain ⟨t459, A9, H⟩ := H
   try dsimp only at H
   have H' := Aside0.mk H
   clear H
   go_wp2_with (first | ((with_reducible refine zf 119 rfl ?_); refine g1 (some 10) Try.func119 #[.int .i64 a0] ?_; (with_reducible refine (impl_isPrime.calls a0 true _ A7.out).mono ?_); rintro e w' ⟨rfl, ⟨nd, rfl⟩⟩; refine ⟨_, rfl, ?_⟩; obtain ⟨hnb10, hnc10⟩ := zn NB456_457; obtain ⟨hcz11_0, hcz11_1, hfz11_0, hfz11_1⟩ := z2 BK456) | (go_at_call 122; (with_reducible refine (impl_IsEnd.calls k a1_0 a1_1 t459 _ A9.out).mono ?_); rintro e w12 ⟨rfl, hb⟩; replace BK456 := bb BK456 hb; replace BK457 := bb BK457 hb; replace HB := bs hb; (try clear hb)))
   go_meet
   case rel => exact ⟨_, (!t459), (by first | rfl | (simp; done) | (simp [*]; done)), H', ⟨by first | omega | exact Nat.le_refl _⟩, ⟨be BK456⟩, ⟨be BK457⟩, ⟨bl⟩⟩
  ·replace c8 := Bool.eq_false_iff.mpr c8
   subst c8
   have H1 : (impl_BallOfEnd.j0 k a0 a2 true a1_0 a1_1) = some (r1, r2, r3, r4) := by rw [if_neg (show ¬ (false = true) by decide)] at H; exact H
   clear H
   have H := H1
   clear H1
   have H' := Aside0.mk H
   clear H
   go_wp2_with (first | ((with_reducible refine zf 119 rfl ?_); refine g1 (some 10) Try.func119 #[.int .i64 a0] ?_; (with_reducible refine (impl_isPrime.calls a0 false _ A7.out).mono ?_); rintro e w' ⟨rfl, ⟨nd, rfl⟩⟩; refine ⟨_, rfl, ?_⟩))
   go_meet
   case rel => exact ⟨_, (true), (by first | rfl | (simp; done) | (simp [*]; done)), H', ⟨by first | omega | exact Nat.le_refl _⟩, ⟨be BK456⟩, ⟨be BK457⟩, ⟨bl⟩⟩
 case rest =>
  clear HC4
  obtain ⟨kq, x8_3, rfl, HA, HJ3, BK456, BK457, HB⟩ := hcut
  cases kq with
  | zero => exact absurd HA.out (by simp [impl_BallOfEnd.j0])
  | succ kj3 =>
   have H := HA.out
   clear HA
   simp only [impl_BallOfEnd.j0] at H
   by_cases c13 : x8_3 = true
   ·subst c13
    rw [if_pos rfl] at H
    simp only [Option.some.injEq, Prod.mk.injEq] at H
    obtain ⟨rfl, rfl, rfl, rfl⟩ := H
    obtain ⟨hnb14, hnc14⟩ := zm NB456_457
    obtain ⟨hcz15_0, hcz15_1, hcz15_2, hfz15_0, hfz15_1, hfz15_2⟩ := cq3 BK457
    go_wp2
    refine bodyPost_ret (results_ct rfl _ _ gb457 27 #[.int .i64 0, .int .i64 0, .int .i64 0] (0, 0) _ rfl (bp) Try.underlying27 rfl (by kernel_rfl)) rfl ?_
    exact ⟨er, bl⟩
   ·replace c13 := Bool.eq_false_iff.mpr c13
    subst c13
    have H1 : ((impl_isLevel.f a2).bind fun t460 => (if t460 = true then (if a1_1 = 0 then (some (0, 0, 0, 5)) else ((impl_ballAt.f kj3 a0 a1_0 a1_1 a2).bind fun bt461 => ((impl_fitted.f bt461.1 bt461.2.1 bt461.2.2.1 bt461.2.2.2).bind fun bt465 => (some (bt465.1, bt465.2.1, bt465.2.2.1, bt465.2.2.2))))) else (some (0, 0, 0, 2)))) = some (r1, r2, r3, r4) := by rw [if_neg (show ¬ (false = true) by decide)] at H; exact H
    clear H
    have H := H1
    clear H1
    replace H := zi H
    obtain ⟨t460, A16, H⟩ := H
    try dsimp only at H
    by_cases c17 : t460 = true
    ·subst c17
     rw [if_pos rfl] at H
     replace H := ii H
     rcases H with ⟨c18, H⟩ | ⟨c18, H⟩
     ·obtain ⟨c18b0, c18b1⟩ := zz c18
      clear c18
      simp only [Option.some.injEq, Prod.mk.injEq] at H
      obtain ⟨rfl, rfl, rfl, rfl⟩ := H
      go_wp2_with (first | ((with_reducible refine zf 102 rfl ?_); refine g1 (some 20) Try.func102 #[.int .i64 a2] ?_; (with_reducible refine (impl_isLevel.calls a2 true _ A16.out).mono ?_); rintro e w' ⟨rfl, ⟨nd, rfl⟩⟩; refine ⟨_, rfl, ?_⟩; (try (rw [drewN_self wc]; generalize hq_ : World.drewN wc _ = wc; have n0_ : Aside0 (wc.heap[gb456]? = some (.cells #[.int .i64 a1_0, .int .i64 a1_1] 63 (0, 0))) := ⟨by rw [← hq_]; exact (be BK456)⟩; have n1_ : Aside0 (wc.heap[gb457]? = some (.cells #[.int .i64 0, .int .i64 0, .int .i64 0] 27 (0, 0))) := ⟨by rw [← hq_]; exact (be BK457)⟩; have n2_ : Aside0 (Below w.heap.size w wc) := ⟨by rw [← hq_]; exact (bl)⟩; clear BK456 BK457 HB hq_; have BK456 := n0_; have BK457 := n1_; have HB := n2_; clear n0_ n1_ n2_)); obtain ⟨hnb19, hnc19⟩ := zn NB456_457; obtain ⟨hcz20_0, hcz20_1, hfz20_0, hfz20_1⟩ := z2 BK456; have hcz21_0 : wc.cell? ⟨gb457, 0, none⟩ = some (.int .i64 0) := (blk_cell BK457.out 0).trans rfl; have hcz21_1 : wc.cell? ⟨gb457, 1, none⟩ = some (.int .i64 0) := (blk_cell BK457.out 1).trans rfl; have hcz21_2 : wc.cell? ⟨gb457, 2, none⟩ = some (.int .i64 0) := (blk_cell BK457.out 2).trans rfl; have hfz21_0 := blk_frozen BK457.out 0; have hfz21_1 := blk_frozen BK457.out 1; have hfz21_2 := blk_frozen BK457.out 2))
      refine bodyPost_ret (results_ct rfl _ _ gb457 27 #[.int .i64 0, .int .i64 0, .int .i64 0] (0, 0) _ rfl (bp) Try.underlying27 rfl (by kernel_rfl)) rfl ?_
      exact ⟨er, bl⟩
     ·obtain ⟨c18b0, c18b1⟩ := zy c18
      replace H := zi H
      obtain ⟨⟨t461, t462, t463, t464⟩, A22, H⟩ := H
      try dsimp only at H
      replace H := zi H
      obtain ⟨⟨t465, t466, t467, t468⟩, A23, H⟩ := H
      try dsimp only at H
      simp only [Option.some.injEq, Prod.mk.injEq] at H
      obtain ⟨rfl, rfl, rfl, rfl⟩ := H
      go_wp2_with (first | ((with_reducible refine zf 102 rfl ?_); refine g1 (some 20) Try.func102 #[.int .i64 a2] ?_; (with_reducible refine (impl_isLevel.calls a2 true _ A16.out).mono ?_); rintro e w' ⟨rfl, ⟨nd, rfl⟩⟩; refine ⟨_, rfl, ?_⟩; (try (rw [drewN_self wc]; generalize hq_ : World.drewN wc _ = wc; have n0_ : Aside0 (wc.heap[gb456]? = some (.cells #[.int .i64 a1_0, .int .i64 a1_1] 63 (0, 0))) := ⟨by rw [← hq_]; exact (be BK456)⟩; have n1_ : Aside0 (wc.heap[gb457]? = some (.cells #[.int .i64 0, .int .i64 0, .int .i64 0] 27 (0, 0))) := ⟨by rw [← hq_]; exact (be BK457)⟩; have n2_ : Aside0 (Below w.heap.size w wc) := ⟨by rw [← hq_]; exact (bl)⟩; clear BK456 BK457 HB hq_; have BK456 := n0_; have BK457 := n1_; have HB := n2_; clear n0_ n1_ n2_)); obtain ⟨hnb24, hnc24⟩ := zn NB456_457; obtain ⟨hcz25_0, hcz25_1, hfz25_0, hfz25_1⟩ := z2 BK456) | ((with_reducible refine zf 128 rfl ?_); refine g1 (some 34) Try.func128 #[.int .i64 a0, .int .i64 a1_0, .int .i64 a1_1, .int .i64 a2] ?_; (with_reducible refine (impl_ballAt.calls kj3 a0 a1_0 a1_1 a2 t461 t462 t463 t464 _ A22.out).mono ?_); rintro e w26 ⟨rfl, hb⟩; refine ⟨_, rfl, ?_⟩; replace BK456 := bb BK456 hb; replace BK457 := bb BK457 hb; replace HB := bs hb; (try clear hb)) | ((with_reducible refine zf 93 rfl ?_); refine g1 (some 37) Try.func93 #[.agg #[.int .i64 t461, .int .i64 t462, .int .i64 t463], .bool t464] ?_; (with_reducible refine (impl_fitted.calls t461 t462 t463 t464 t465 t466 t467 t468 _ A23.out).mono ?_); rintro e w27 ⟨rfl, hb⟩; refine ⟨_, rfl, ?_⟩; replace BK456 := bb BK456 hb; replace BK457 := bb BK457 hb; replace HB := bs hb; (try clear hb); obtain ⟨hcz28_0, hcz28_1, hcz28_2, hfz28_0, hfz28_1, hfz28_2⟩ := cq3 BK457))
      refine bodyPost_ret (results_ct rfl _ _ gb457 27 #[.int .i64 t465, .int .i64 t466, .int .i64 t467] (0, 0) _ rfl (bp) Try.underlying27 rfl (by kernel_rfl)) rfl ?_
      exact ⟨er, bl⟩
    ·replace c17 := Bool.eq_false_iff.mpr c17
     subst c17
     have H1 : (some (0, 0, 0, 2)) = some (r1, r2, r3, r4) := by rw [if_neg (show ¬ (false = true) by decide)] at H; exact H
     clear H
     have H := H1
     clear H1
     simp only [Option.some.injEq, Prod.mk.injEq] at H
     obtain ⟨rfl, rfl, rfl, rfl⟩ := H
     go_wp2_with (first | ((with_reducible refine zf 102 rfl ?_); refine g1 (some 20) Try.func102 #[.int .i64 a2] ?_; (with_reducible refine (impl_isLevel.calls a2 false _ A16.out).mono ?_); rintro e w' ⟨rfl, ⟨nd, rfl⟩⟩; refine ⟨_, rfl, ?_⟩; (try (rw [drewN_self wc]; generalize hq_ : World.drewN wc _ = wc; have n0_ : Aside0 (wc.heap[gb456]? = some (.cells #[.int .i64 a1_0, .int .i64 a1_1] 63 (0, 0))) := ⟨by rw [← hq_]; exact (be BK456)⟩; have n1_ : Aside0 (wc.heap[gb457]? = some (.cells #[.int .i64 0, .int .i64 0, .int .i64 0] 27 (0, 0))) := ⟨by rw [← hq_]; exact (be BK457)⟩; have n2_ : Aside0 (Below w.heap.size w wc) := ⟨by rw [← hq_]; exact (bl)⟩; clear BK456 BK457 HB hq_; have BK456 := n0_; have BK457 := n1_; have HB := n2_; clear n0_ n1_ n2_)); obtain ⟨hnb29, hnc29⟩ := zm NB456_457; have hcz30_0 : wc.cell? ⟨gb457, 0, none⟩ = some (.int .i64 0) := (blk_cell BK457.out 0).trans rfl; have hcz30_1 : wc.cell? ⟨gb457, 1, none⟩ = some (.int .i64 0) := (blk_cell BK457.out 1).trans rfl; have hcz30_2 : wc.cell? ⟨gb457, 2, none⟩ = some (.int .i64 0) := (blk_cell BK457.out 2).trans rfl; have hfz30_0 := blk_frozen BK457.out 0; have hfz30_1 := blk_frozen BK457.out 1; have hfz30_2 := blk_frozen BK457.out 2))
     refine bodyPost_ret (results_ct rfl _ _ gb457 27 #[.int .i64 0, .int .i64 0, .int .i64 0] (0, 0) _ rfl (bp) Try.underlying27 rfl (by kernel_rfl)) rfl ?_
     exact ⟨er, bl⟩

/-! ### spec_l01Parent: function 106 -/
def spec_l01Parent.f (k : Nat) (a0 : Int) (a1_0 : Int) (a1_1 : Int) (a1_2 : Int) : Option (Int × Int × Int × Bool) := (spec_l01Power.f k a0 a1_2).bind fun t471 => ((spec_l01Of.f k a0 a1_1 t471 (wrap64 (a1_0 - 1))).bind fun bt472 => (some (bt472.1, bt472.2.1, bt472.2.2.1, bt472.2.2.2)))
def spec_l01Parent.T1 : Bool × List (List Nat × List Nat) := (true, [([], []), ([], []), ([1], [1]), ([], []), ([], []), ([4], [4]), ([3, 5], [3, 5]), ([], []), ([7], [7]), ([8], [8]), ([0, 2, 6, 9, 6], [0, 2, 6, 9]), ([10], [10]), ([11], [11]), ([11], [11]), ([], []), ([14, 12, 10, 0, 1, 2, 3, 4, 5, 6, 7, 8, 9, 10, 11, 12, 14], [12, 14]), ([13, 15, 0, 1, 2, 3, 4, 5, 6, 7, 8, 9, 10, 11, 12, 13, 14, 15], [13])])
def spec_l01Parent.B1 : List Nat := [0, 0, 2, 0, 0, 16, 56, 0, 128, 384, 1023, 2047, 4095, 4095, 0, 24575, 65535]
theorem spec_l01Parent.tab1 : rtab .any (opsOf Try.f106 1) = spec_l01Parent.T1 := by kernel_rfl
theorem spec_l01Parent.bits1 : waitsOk spec_l01Parent.T1.2 spec_l01Parent.B1 = true := by kernel_rfl
set_option maxHeartbeats 8000000 in
set_option maxRecDepth 100000 in
theorem spec_l01Parent.calls (k : Nat) (a0 : Int) (a1_0 : Int) (a1_1 : Int) (a1_2 : Int) (r1 : Int) (r2 : Int) (r3 : Int) (r4 : Bool) (w : World) (h : spec_l01Parent.f k a0 a1_0 a1_1 a1_2 = some (r1, r2, r3, r4)) :
  Calls Try.prog 106 #[.int .i64 a0, .agg #[.int .i64 a1_0, .int .i64 a1_1, .int .i64 a1_2]] w fun e w' => e = .returned (.tuple #[.agg #[.int .i64 r1, .int .i64 r2, .int .i64 r3], .bool r4]) ∧ Below w.heap.size w w' := by
 have hu27 := Try.underlying27
 have HB := Aside0.mk (Below.refl w.heap.size w)
 unfold spec_l01Parent.f at h
 have H := h
 clear h
 replace H := zi H
 obtain ⟨t471, A3, H⟩ := H
 try dsimp only at H
 replace H := zi H
 obtain ⟨⟨t472, t473, t474, t475⟩, A4, H⟩ := H
 try dsimp only at H
 simp only [Option.some.injEq, Prod.mk.injEq] at H
 obtain ⟨rfl, rfl, rfl, rfl⟩ := H
 go_enter Try.func106, Try.ntmps106
 try go_wp2_with (first | ((with_reducible refine zg 3 rfl ?_); refine z3 3 27 a1_0 a1_1 a1_2 ?_; intro gb469 hg w5 BK469 hb; have GW469 := sg hg; replace HB := bs hb; clear hb hg) | ((with_reducible refine zg 4 rfl ?_); refine z3 4 27 0 0 0 ?_; intro gb470 hg w6 BK470 hb; have GW470 := sg hg; have NB469_470 := nl hg BK469; replace BK469 := bb BK469 hb; replace HB := bs hb; clear hb hg))
 replace BK469 := Aside0.mk (blk_drew BK469.out)
 replace BK470 := Aside0.mk (blk_drew BK470.out)
 replace HB := Aside0.mk (below_drew1 HB.out)
 refine sw 17 (fun w' => w'.cell? ⟨gb469, 0, none⟩ = some (.int .i64 a1_0) ∧ w'.cell? ⟨gb469, 1, none⟩ = some (.int .i64 a1_1) ∧ w'.cell? ⟨gb469, 2, none⟩ = some (.int .i64 a1_2)) spec_l01Parent.tab1 spec_l01Parent.bits1 (e3 BK469) (fun hHeld HT_ HW_ => ?_)
 generalize w6.drew = w7 at BK469 BK470 HB hHeld ⊢
 refine pu 0 (some 9) (tA 17 1) HT_ ?_
 refine pu 1 (some 10) (tA 17 3) HT_ ?_
 refine pu 3 (some 12) (tA 17 11) HT_ ?_
 refine pu 4 (some 13) (tA 17 27) HT_ ?_
 refine pu 7 (some 16) (tA 17 155) HT_ ?_
 refine tk3 2 (some 11) (tA 17 159) HT_ HW_ hHeld ?_
 refine tk3 5 (some 14) (tA 17 191) HT_ HW_ hHeld ?_
 refine tk3 8 (some 17) (tA 17 447) HT_ HW_ hHeld ?_
 refine pu 9 (some 18) (tA 17 959) HT_ ?_
 refine join_ (σ := Nat) 2 (tA 17 32767) (fun s_ => [(15, .int .i64 t471), (19, .tuple #[.agg #[.int .i64 t472, .int .i64 t473, .int .i64 t474], .bool t475]), (6, .pointer (some ⟨s_, 0, none⟩)), (8, .tuple #[.agg #[.int .i64 t472, .int .i64 t473, .int .i64 t474], .bool t475]), (20, .agg #[.int .i64 t472, .int .i64 t473, .int .i64 t474]), (21, .bool t475)]) (fun s_ w' => (w'.cell? ⟨gb469, 0, none⟩ = some (.int .i64 a1_0) ∧ w'.cell? ⟨gb469, 1, none⟩ = some (.int .i64 a1_1) ∧ w'.cell? ⟨gb469, 2, none⟩ = some (.int .i64 a1_2)) ∧ (w'.heap[gb469]? = some (.cells #[.int .i64 a1_0, .int .i64 a1_1, .int .i64 a1_2] 27 (0, 0))) ∧ (w'.heap[gb470]? = some (.cells #[.int .i64 0, .int .i64 0, .int .i64 0] 27 (0, 0))) ∧ (w'.heap[s_]? = some (.cells #[.int .i64 0, .int .i64 0, .int .i64 0] 27 (0, 0))) ∧ (w.heap.size ≤ s_) ∧ (w.heap.size ≤ s_) ∧ (gb469 ≠ s_) ∧ (s_ ≠ gb469) ∧ (gb470 ≠ s_) ∧ (s_ ≠ gb470) ∧ (Below w.heap.size w w')) ?_ ?_
 rotate_left
 ·intro hCont
  refine two_ (i := 6) (j := 14) (Ni := some 15) (Nj := some 6) (tA 17 1023) (tA 17 17343) rfl rfl rfl rfl (two_of HT_.out (by kernel_rfl)) (by decide) (by decide) (fun K hK => ?_) (fun K hK => ?_)
  ·skip
   refine gs Try.func96 #[.int .i64 a0, .int .i64 a1_2] ?_
   with_reducible refine (spec_l01Power.calls k a0 a1_2 t471 _ A3.out).mono ?_
   rintro e w' ⟨rfl, ⟨nd, rfl⟩⟩
   refine ⟨_, rfl, ?_⟩
   refine hK.out _ _ (e3 BK469) (fun hHeld => ?_)
   clear hK K
   refine nm (some 15) ?_
   refine two_ (i := 10) (j := 14) (Ni := some 19) (Nj := some 6) (tA 17 2047) (tA 17 17407) rfl rfl rfl rfl (two_of HT_.out (by kernel_rfl)) (by decide) (by decide) (fun K hK => ?_) (fun K hK => ?_)
   ·skip
    refine gs Try.func97 #[.int .i64 a0, .int .i64 a1_1, .int .i64 t471, .int .i64 (wrap64 (a1_0 - 1))] ?_
    with_reducible refine (spec_l01Of.calls k a0 a1_1 t471 (wrap64 (a1_0 - 1)) t472 t473 t474 t475 _ A4.out).mono ?_
    rintro e w8 ⟨rfl, hb⟩
    refine ⟨_, rfl, ?_⟩
    replace BK469 := bb BK469 hb
    replace BK470 := bb BK470 hb
    replace HB := bs hb
    (try clear hb)
    (try clear hb2)
    (try clear hk)
    (try clear hi)
    refine hK.out _ _ (e3 BK469) (fun hHeld => ?_)
    clear hK K
    refine nm (some 19) ?_
    refine pu 11 (some 8) (tA 17 4095) HT_ ?_
    refine pu 12 (some 20) (tA 17 8191) HT_ ?_
    refine pu 13 (some 21) (tA 17 16383) HT_ ?_
    refine o1 14 (some 6) (tA 17 32767) HT_ (fun K hK => ?_)
    refine box_step ?hg (N := 6) ?hd (cs := #[.int .i64 0, .int .i64 0, .int .i64 0]) (t := 27) ?hr ?_; (case hd => rfl); (case hg => rfl); (case hr => first | (go_simp; done) | (go_simp; rfl))
    intro gb476 hg w9 hbox hb
    have BK476 := Aside0.mk (hbox)
    have GW476 := Aside0.mk ((by rw [hg]; exact (below_size (bl)) : w.heap.size ≤ gb476))
    have GE476 := Aside0.mk ((by rw [hg]; exact (below_size (bl)) : w.heap.size ≤ gb476))
    have NB469_476 := nl hg BK469
    have NB476_469 := ng hg BK469
    have NB470_476 := nl hg BK470
    have NB476_470 := ng hg BK470
    replace BK469 := bb BK469 hb
    replace BK470 := bb BK470 hb
    replace HB := bs hb
    clear hb hg
    refine hK.out _ _ (e3 BK469) (fun hHeld => ?_)
    clear hK K
    refine nm (some 6) ?_
    exact norm_ (by simp only [putAll, Act.put, zq, zr, zt]) (hCont (gb476) _ ⟨hHeld, (be BK469), (be BK470), (be BK476), GW476.out, GE476.out, NB469_476.out, NB476_469.out, NB470_476.out, NB476_470.out, (bl)⟩)
   ·skip
    refine box_step ?hg (N := 6) ?hd (cs := #[.int .i64 0, .int .i64 0, .int .i64 0]) (t := 27) ?hr ?_; (case hd => rfl); (case hg => rfl); (case hr => first | (go_simp; done) | (go_simp; rfl))
    intro gb476 hg w8 hbox hb
    have BK476 := Aside0.mk (hbox)
    have GW476 := Aside0.mk ((by rw [hg]; exact (below_size (bl)) : w.heap.size ≤ gb476))
    have GE476 := Aside0.mk ((by rw [hg]; exact (below_size (bl)) : w.heap.size ≤ gb476))
    have NB469_476 := nl hg BK469
    have NB476_469 := ng hg BK469
    have NB470_476 := nl hg BK470
    have NB476_470 := ng hg BK470
    replace BK469 := bb BK469 hb
    replace BK470 := bb BK470 hb
    replace HB := bs hb
    clear hb hg
    refine hK.out _ _ (e3 BK469) (fun hHeld => ?_)
    clear hK K
    refine nm (some 6) ?_
    refine o1 10 (some 19) (tA 17 18431) HT_ (fun K hK => ?_)
    refine gs Try.func97 #[.int .i64 a0, .int .i64 a1_1, .int .i64 t471, .int .i64 (wrap64 (a1_0 - 1))] ?_
    with_reducible refine (spec_l01Of.calls k a0 a1_1 t471 (wrap64 (a1_0 - 1)) t472 t473 t474 t475 _ A4.out).mono ?_
    rintro e w9 ⟨rfl, hb⟩
    refine ⟨_, rfl, ?_⟩
    replace BK469 := bb BK469 hb
    replace BK470 := bb BK470 hb
    replace BK476 := bb BK476 hb
    replace HB := bs hb
    (try clear hb)
    (try clear hb2)
    (try clear hk)
    (try clear hi)
    refine hK.out _ _ (e3 BK469) (fun hHeld => ?_)
    clear hK K
    refine nm (some 19) ?_
    refine pu 11 (some 8) (tA 17 20479) HT_ ?_
    refine pu 12 (some 20) (tA 17 24575) HT_ ?_
    refine pu 13 (some 21) (tA 17 32767) HT_ ?_
    exact norm_ (by simp only [putAll, Act.put, zq, zr, zt]) (hCont (gb476) _ ⟨hHeld, (be BK469), (be BK470), (be BK476), GW476.out, GE476.out, NB469_476.out, NB476_469.out, NB470_476.out, NB476_470.out, (bl)⟩)
  ·skip
   refine box_step ?hg (N := 6) ?hd (cs := #[.int .i64 0, .int .i64 0, .int .i64 0]) (t := 27) ?hr ?_; (case hd => rfl); (case hg => rfl); (case hr => first | (go_simp; done) | (go_simp; rfl))
   intro gb476 hg w8 hbox hb
   have BK476 := Aside0.mk (hbox)
   have GW476 := Aside0.mk ((by rw [hg]; exact (below_size (bl)) : w.heap.size ≤ gb476))
   have GE476 := Aside0.mk ((by rw [hg]; exact (below_size (bl)) : w.heap.size ≤ gb476))
   have NB469_476 := nl hg BK469
   have NB476_469 := ng hg BK469
   have NB470_476 := nl hg BK470
   have NB476_470 := ng hg BK470
   replace BK469 := bb BK469 hb
   replace BK470 := bb BK470 hb
   replace HB := bs hb
   clear hb hg
   refine hK.out _ _ (e3 BK469) (fun hHeld => ?_)
   clear hK K
   refine nm (some 6) ?_
   refine o1 6 (some 15) (tA 17 17407) HT_ (fun K hK => ?_)
   refine gs Try.func96 #[.int .i64 a0, .int .i64 a1_2] ?_
   with_reducible refine (spec_l01Power.calls k a0 a1_2 t471 _ A3.out).mono ?_
   rintro e w' ⟨rfl, ⟨nd, rfl⟩⟩
   refine ⟨_, rfl, ?_⟩
   refine hK.out _ _ (e3 BK469) (fun hHeld => ?_)
   clear hK K
   refine nm (some 15) ?_
   refine o1 10 (some 19) (tA 17 18431) HT_ (fun K hK => ?_)
   refine gs Try.func97 #[.int .i64 a0, .int .i64 a1_1, .int .i64 t471, .int .i64 (wrap64 (a1_0 - 1))] ?_
   with_reducible refine (spec_l01Of.calls k a0 a1_1 t471 (wrap64 (a1_0 - 1)) t472 t473 t474 t475 _ A4.out).mono ?_
   rintro e w9 ⟨rfl, hb⟩
   refine ⟨_, rfl, ?_⟩
   replace BK469 := bb BK469 hb
   replace BK470 := bb BK470 hb
   replace BK476 := bb BK476 hb
   replace HB := bs hb
   (try clear hb)
   (try clear hb2)
   (try clear hk)
   (try clear hi)
   refine hK.out _ _ (e3 BK469) (fun hHeld => ?_)
   clear hK K
   refine nm (some 19) ?_
   refine pu 11 (some 8) (tA 17 20479) HT_ ?_
   refine pu 12 (some 20) (tA 17 24575) HT_ ?_
   refine pu 13 (some 21) (tA 17 32767) HT_ ?_
   exact norm_ (by simp only [putAll, Act.put, zq, zr, zt]) (hCont (gb476) _ ⟨hHeld, (be BK469), (be BK470), (be BK476), GW476.out, GE476.out, NB469_476.out, NB476_469.out, NB470_476.out, NB476_470.out, (bl)⟩)
 rintro gb476 w10 ⟨hS_, h0_, h1_, h2_, h3_, h4_, h5_, h6_, h7_, h8_, h9_⟩
 have n0_ : Aside0 (w10.heap[gb469]? = some (.cells #[.int .i64 a1_0, .int .i64 a1_1, .int .i64 a1_2] 27 (0, 0))) := ⟨h0_⟩
 have n1_ : Aside0 (w10.heap[gb470]? = some (.cells #[.int .i64 0, .int .i64 0, .int .i64 0] 27 (0, 0))) := ⟨h1_⟩
 have n2_ : Aside0 (w10.heap[gb476]? = some (.cells #[.int .i64 0, .int .i64 0, .int .i64 0] 27 (0, 0))) := ⟨h2_⟩
 have n3_ : Aside0 (w.heap.size ≤ gb476) := ⟨h3_⟩
 have n4_ : Aside0 (w.heap.size ≤ gb476) := ⟨h4_⟩
 have n5_ : Aside0 (gb469 ≠ gb476) := ⟨h5_⟩
 have n6_ : Aside0 (gb476 ≠ gb469) := ⟨h6_⟩
 have n7_ : Aside0 (gb470 ≠ gb476) := ⟨h7_⟩
 have n8_ : Aside0 (gb476 ≠ gb470) := ⟨h8_⟩
 have n9_ : Aside0 (Below w.heap.size w w10) := ⟨h9_⟩
 clear BK469
 clear BK470
 clear HB
 clear h0_ h1_ h2_ h3_ h4_ h5_ h6_ h7_ h8_ h9_
 have BK469 := n0_
 have BK470 := n1_
 have BK476 := n2_
 have GW476 := n3_
 have GE476 := n4_
 have NB469_476 := n5_
 have NB476_469 := n6_
 have NB470_476 := n7_
 have NB476_470 := n8_
 have HB := n9_
 clear n0_ n1_ n2_ n3_ n4_ n5_ n6_ n7_ n8_ n9_
 have hHeld : w10.cell? ⟨gb469, 0, none⟩ = some (.int .i64 a1_0) ∧ w10.cell? ⟨gb469, 1, none⟩ = some (.int .i64 a1_1) ∧ w10.cell? ⟨gb469, 2, none⟩ = some (.int .i64 a1_2) := hS_
 refine norm_ (a' := ?_) ?_ ?_
 rotate_left
 ·simp only [putAll, Act.put, zq, zr, zt]
  rfl
 refine o1 15 none (tA 17 65535) HT_ (fun K hK => ?_)
 have hs11 : w10.cell? ⟨gb476, 0, none⟩ = some (.int .i64 0) := (blk_cell BK476.out 0).trans rfl
 have hfs11 := blk_frozen BK476.out 0
 have hns11_0 := NB469_476.out
 have hns11_1 := NB470_476.out
 have hms11_0 := NB476_469.out
 have hms11_1 := NB476_470.out
 have hs12 : w10.cell? ⟨gb476, 1, none⟩ = some (.int .i64 0) := (blk_cell BK476.out 1).trans rfl
 have hfs12 := blk_frozen BK476.out 1
 have hns12_0 := NB469_476.out
 have hns12_1 := NB470_476.out
 have hms12_0 := NB476_469.out
 have hms12_1 := NB476_470.out
 have hs13 : w10.cell? ⟨gb476, 2, none⟩ = some (.int .i64 0) := (blk_cell BK476.out 2).trans rfl
 have hfs13 := blk_frozen BK476.out 2
 have hns13_0 := NB469_476.out
 have hns13_1 := NB470_476.out
 have hms13_0 := NB476_469.out
 have hms13_1 := NB476_470.out
 refine skip_ (w1 := ?_) (by rfl) rfl ?_ ?_
 rotate_left
 ·go_simp
  rfl
 refine hK.out _ _ (m3 hHeld (fun e => cf gb476 NB469_476 (cf gb476 NB469_476 (cf gb476 NB469_476 e)))) (fun hHeld => ?_)
 clear hK K
 refine pu 16 (some 7) (tA 17 131071) HT_ ?_
 refine done_ (done_of HT_.out (by kernel_rfl)) ?_
 have hnb14 := NB476_469.out
 have hnc14 := NB469_476.out
 have hnb15 := NB476_470.out
 have hnc15 := NB470_476.out
 obtain ⟨hcz16_0, hcz16_1, hcz16_2, hfz16_0, hfz16_1, hfz16_2⟩ := cq3 BK476
 obtain ⟨hnb17, hnc17⟩ := zm NB469_470
 obtain ⟨hcz18_0, hcz18_1, hcz18_2, hfz18_0, hfz18_1, hfz18_2⟩ := cq3 BK470
 try go_wp2
 refine bodyPost_ret (results_ct rfl _ _ gb470 27 #[.int .i64 t472, .int .i64 t473, .int .i64 t474] (0, 0) _ rfl (bp) Try.underlying27 rfl (by kernel_rfl)) rfl ?_
 exact ⟨er, bl⟩

end Go.Proofs.Ytpmepopagapeiaa.PFnBalls

-- Printed by the kit's print and repaired by a program of this session.
import Derived.Test.YtpmepopagapeiaaPFnBallSumsx0
import Derived.Test.YtpmepopagapeiaaPFnBallSumsx6
namespace Go.Proofs.Ytpmepopagapeiaa.PFnBallSums
open Go.RowKit Go.Proofs.YtpmepopagapeiaaW.PrintWords Go.Proofs.YtpmepopagapeiaaW.PrintLast Go.Proofs.YtpmepopagapeiaaW.PrintMore
attribute [local go_sem] max2_int min2_int max_two min_two max_three min_three max_four min_four   -- for this text's walks alone
set_option linter.unusedVariables false
set_option linter.unusedSimpArgs false

/-! ### impl_MultiplyBall: function 26 -/
def impl_MultiplyBall.j0 : Nat → Int → Int → Bool → Int → Int → Int → Option (Int × Int × Int × Int)
 | 0, _, _, _, _, _, _ => none
 | k + 1, x0, x2, x16, x350000, x350001, x350002 => if x16 = true then (some (0, 0, 0, 2)) else ((impl_isLevel.f (wrap64 (x350000 + x2))).bind fun t352 => (if t352 = true then (if x2 ≥ 0 then ((impl_mark.f k x0 x350000 x350001 x350002).bind fun t353 => ((impl_power.f k x0 x2).bind fun t354 => ((impl_ofMark.f k x0 (wrap64 (x350000 + x2)) (wrap64 (t353 * t354))).bind fun bt355 => ((impl_fitted.f bt355.1 bt355.2.1 bt355.2.2.1 bt355.2.2.2).bind fun bt359 => (some (bt359.1, bt359.2.1, bt359.2.2.1, bt359.2.2.2)))))) else ((impl_mark.f k x0 x350000 x350001 x350002).bind fun t363 => ((impl_power.f k x0 (wrap64 (-x2))).bind fun t364 => (if t364 = 0 then (none) else (if (Int.tmod t363 t364) = 0 then ((impl_ofMark.f k x0 (wrap64 (x350000 + x2)) (wrap64 (Int.tdiv t363 t364))).bind fun bt365 => ((impl_fitted.f bt365.1 bt365.2.1 bt365.2.2.1 bt365.2.2.2).bind fun bt369 => (some (bt369.1, bt369.2.1, bt369.2.2.1, bt369.2.2.2)))) else (some (0, 0, 0, 3))))))) else (some (0, 0, 0, 3))))
def impl_MultiplyBall.f (k : Nat) (a0 : Int) (a1_0 : Int) (a1_1 : Int) (a1_2 : Int) (a2 : Int) : Option (Int × Int × Int × Int) := (impl_IsBall.f k a0 a1_0 a1_1 a1_2).bind fun t351 => (if t351 = true then (if a2 < (-20) then (impl_MultiplyBall.j0 k a0 a2 true a1_0 a1_1 a1_2) else (impl_MultiplyBall.j0 k a0 a2 (decide (a2 > 20)) a1_0 a1_1 a1_2)) else (some (0, 0, 0, 1)))
theorem impl_MultiplyBall.mono_l : ∀ k, (∀ y0 y1 y2 y3 y4 y5, LeO (impl_MultiplyBall.j0 k y0 y1 y2 y3 y4 y5) (impl_MultiplyBall.j0 (k + 1) y0 y1 y2 y3 y4 y5))
 | 0 => fun _ _ _ _ _ _ r h => by simp [impl_MultiplyBall.j0] at h
 | k + 1 => by
  have ih0 := impl_MultiplyBall.mono_l k
  ·intro y0 y1 y2 y3 y4 y5
   unfold impl_MultiplyBall.j0
   repeat' first
   | (with_reducible exact ih0 _ _ _ _ _ _)
   | (with_reducible exact impl_IsBall.mono _ _ _ _ _)
   | (with_reducible exact impl_mark.mono _ _ _ _ _)
   | (with_reducible exact impl_ofMark.mono _ _ _ _)
   | (with_reducible exact impl_power.mono _ _ _)
   | (with_reducible exact LeO.refl _)
   | (with_reducible exact LeO.none _)
   | (with_reducible refine LeO.ite ?_ ?_)
   | (with_reducible refine LeO.bind ?_ (fun _ => ?_))
   | refine LeO.ite ?_ ?_
   | refine LeO.bind ?_ (fun _ => ?_)
theorem impl_MultiplyBall.mono : ∀ a0 a1 a2 a3 a4 k, LeO (impl_MultiplyBall.f k a0 a1 a2 a3 a4) (impl_MultiplyBall.f (k + 1) a0 a1 a2 a3 a4) := by
 intro a0 a1 a2 a3 a4 k
 have ih0 := impl_MultiplyBall.mono_l k
 unfold impl_MultiplyBall.f
 repeat' first
   | (with_reducible exact ih0 _ _ _ _ _ _)
   | (with_reducible exact impl_IsBall.mono _ _ _ _ _)
   | (with_reducible exact impl_mark.mono _ _ _ _ _)
   | (with_reducible exact impl_ofMark.mono _ _ _ _)
   | (with_reducible exact impl_power.mono _ _ _)
   | (with_reducible exact LeO.refl _)
   | (with_reducible exact LeO.none _)
   | (with_reducible refine LeO.ite ?_ ?_)
   | (with_reducible refine LeO.bind ?_ (fun _ => ?_))
   | refine LeO.ite ?_ ?_
   | refine LeO.bind ?_ (fun _ => ?_)
def impl_MultiplyBall.T8 : Bool × List (List Nat × List Nat) := (true, [([], []), ([], []), ([1], [1]), ([], []), ([2, 3], [2, 3]), ([], []), ([], []), ([5, 6], [5, 6]), ([], []), ([], []), ([8, 9, 7], [8, 9]), ([7, 10], [7, 10]), ([0, 4, 11, 10], [0, 4, 11]), ([12], [12]), ([12], [12]), ([13, 14, 12], [13, 14]), ([15], [15]), ([15], [15]), ([16, 15, 0, 1, 2, 3, 4, 5, 6, 7, 8, 9, 10, 11, 12, 13, 14, 15, 16, 17], [16]), ([17, 18, 0, 1, 2, 3, 4, 5, 6, 7, 8, 9, 10, 11, 12, 13, 14, 15, 16, 17, 18], [17])])
def impl_MultiplyBall.B8 : List Nat := [0, 0, 2, 0, 14, 0, 0, 96, 0, 0, 992, 2016, 4095, 8191, 8191, 32767, 65535, 65535, 262143, 524287]
theorem impl_MultiplyBall.tab8 : rtab .any (opsOf Try.f26 8) = impl_MultiplyBall.T8 := by kernel_rfl
theorem impl_MultiplyBall.bits8 : waitsOk impl_MultiplyBall.T8.2 impl_MultiplyBall.B8 = true := by kernel_rfl
def impl_MultiplyBall.T12 : Bool × List (List Nat × List Nat) := (true, [([], []), ([], []), ([1], [1]), ([], []), ([2, 3], [2, 3]), ([], []), ([], []), ([5, 6], [5, 6]), ([0, 4, 7], [0, 4, 7]), ([8], [8]), ([8], [8]), ([9, 10, 8], [9, 10]), ([11], [11]), ([11], [11]), ([12, 11, 0, 1, 2, 3, 4, 5, 6, 7, 8, 9, 10, 11, 12, 13], [12]), ([13, 14, 0, 1, 2, 3, 4, 5, 6, 7, 8, 9, 10, 11, 12, 13, 14], [13])])
def impl_MultiplyBall.B12 : List Nat := [0, 0, 2, 0, 14, 0, 0, 96, 255, 511, 511, 2047, 4095, 4095, 16383, 32767]
theorem impl_MultiplyBall.tab12 : rtab .any (opsOf Try.f26 12) = impl_MultiplyBall.T12 := by kernel_rfl
theorem impl_MultiplyBall.bits12 : waitsOk impl_MultiplyBall.T12.2 impl_MultiplyBall.B12 = true := by kernel_rfl
set_option maxHeartbeats 8000000 in
set_option maxRecDepth 100000 in
theorem impl_MultiplyBall.calls (k : Nat) (a0 : Int) (a1_0 : Int) (a1_1 : Int) (a1_2 : Int) (a2 : Int) (r1 : Int) (r2 : Int) (r3 : Int) (r4 : Int) (w : World) (h : impl_MultiplyBall.f k a0 a1_0 a1_1 a1_2 a2 = some (r1, r2, r3, r4)) :
  Calls Try.prog 26 #[.int .i64 a0, .agg #[.int .i64 a1_0, .int .i64 a1_1, .int .i64 a1_2], .int .i64 a2] w fun e w' => e = .returned (.tuple #[.agg #[.int .i64 r1, .int .i64 r2, .int .i64 r3], .int .i64 r4]) ∧ Below w.heap.size w w' := by
 have hu27 := Try.underlying27
 have HB := Aside0.mk (Below.refl w.heap.size w)
 have H : ((impl_IsBall.f k a0 a1_0 a1_1 a1_2).bind fun t351 => (if t351 = true then (if a2 < (-20) then (impl_MultiplyBall.j0 k a0 a2 true a1_0 a1_1 a1_2) else (impl_MultiplyBall.j0 k a0 a2 (decide (a2 > 20)) a1_0 a1_1 a1_2)) else (some (0, 0, 0, 1)))) = some (r1, r2, r3, r4) := h
 clear h
 replace H := Option.bind_eq_some_iff.mp H
 obtain ⟨t351, A40, H⟩ := H
 replace H : (if t351 = true then (if a2 < (-20) then (impl_MultiplyBall.j0 k a0 a2 true a1_0 a1_1 a1_2) else (impl_MultiplyBall.j0 k a0 a2 (decide (a2 > 20)) a1_0 a1_1 a1_2)) else (some (0, 0, 0, 1))) = some (r1, r2, r3, r4) := H
 have A4 := Aside0.mk A40
 clear A40
 by_cases c5 : t351 = true
 ·subst c5
  have H1 : (if a2 < (-20) then (impl_MultiplyBall.j0 k a0 a2 true a1_0 a1_1 a1_2) else (impl_MultiplyBall.j0 k a0 a2 (decide (a2 > 20)) a1_0 a1_1 a1_2)) = some (r1, r2, r3, r4) := by rw [if_pos rfl] at H; exact H
  clear H
  have H := H1
  clear H1
  have HC6 := Aside0.mk H
  clear H
  go_enter Try.func26, Try.ntmps26
  go_upto_region 3 with (first | ((with_reducible refine gate_dst (N := 4) rfl ?_); refine bx (N := 4) (cs := #[.int .i64 a1_0, .int .i64 a1_1, .int .i64 a1_2]) (t := 27) ?_; intro gb349 hg w7 hbox hb; have BK349 := Aside0.mk (hbox); have GW349 := sg hg; have GE349 := sg hg; replace HB := bs hb; clear hb hbox hg) | ((with_reducible refine gate_dst (N := 6) rfl ?_); refine bx (N := 6) (cs := #[.int .i64 0, .int .i64 0, .int .i64 0]) (t := 27) ?_; intro gb350 hg w8 hbox hb; have BK350 := Aside0.mk (hbox); have GW350 := sg hg; have GE350 := sg hg; have NB349_350 := nl hg BK349; have NB350_349 := ng hg BK349; replace BK349 := bb BK349 hb; replace HB := bs hb; clear hb hbox hg; have hnb9 := NB349_350.out; have hnc9 := NB350_349.out; obtain ⟨hcz10_0, hcz10_1, hcz10_2, hfz10_0, hfz10_1, hfz10_2⟩ := c3 BK349) | ((with_reducible refine gate_callee (f := 65) rfl ?_); refine g1 (some 13) Try.func65 #[.int .i64 a0, .agg #[.int .i64 a1_0, .int .i64 a1_1, .int .i64 a1_2]] ?_; (with_reducible refine (impl_IsBall.calls k a0 a1_0 a1_1 a1_2 true _ A4.out).mono ?_); rintro e w11 ⟨rfl, hb⟩; refine ⟨_, rfl, ?_⟩; replace BK349 := bb BK349 hb; replace BK350 := bb BK350 hb; replace HB := bs hb; (try clear hb); (try clear hb2); (try clear hk); (try clear hi)))
  (try simp only [Act.put, List.setIfInBounds_toArray, List.set_cons_zero, List.set_cons_succ])
  go_cut [16] (fun v16 wc => ∃ (kq : Nat) (x16_5 : Bool), v16 = .bool x16_5 ∧ Aside0 (impl_MultiplyBall.j0 kq a0 a2 x16_5 a1_0 a1_1 a1_2 = some (r1, r2, r3, r4)) ∧ Aside0 (kq ≤ k) ∧ Aside0 (wc.heap[gb349]? = some (.cells #[.int .i64 a1_0, .int .i64 a1_1, .int .i64 a1_2] 27 (0, 0))) ∧ Aside0 (wc.heap[gb350]? = some (.cells #[.int .i64 0, .int .i64 0, .int .i64 0] 27 (0, 0))) ∧ Aside0 (Below w.heap.size w wc))
  case first =>
   have H := HC6.out
   clear HC6
   by_cases c12 : a2 < (-20)
   ·rw [if_pos c12] at H
    have c12b0 : decide (a2 < (-20)) = true := decide_eq_true c12
    clear c12
    (first | rw [c12b0] | (simp only [i64_w, i32_w]; rw [c12b0]) | skip)
    have H' := Aside0.mk H
    clear H
    go_wp2
    go_meet
    case rel => exact ⟨_, (true), (by first | rfl | (simp; done) | (simp [*]; done)), H', ⟨by first | omega | exact Nat.le_refl _⟩, ⟨be BK349⟩, ⟨be BK350⟩, ⟨by repeat (first | (with_reducible first | exact HB.out | apply below_alloc | apply pw_below_drewN | apply below_drew1 | refine below_set ?_ GE349.out | refine below_set ?_ GE350.out) | exact HB.out)⟩⟩
   ·rw [if_neg c12] at H
    have c12b0 : decide (a2 < (-20)) = false := decide_eq_false c12
    clear c12
    (first | rw [c12b0] | (simp only [i64_w, i32_w]; rw [c12b0]) | skip)
    have H' := Aside0.mk H
    clear H
    go_wp2
    go_meet
    case rel => exact ⟨_, (decide (a2 > 20)), (by first | rfl | (simp; done) | (simp [*]; done)), H', ⟨by first | omega | exact Nat.le_refl _⟩, ⟨be BK349⟩, ⟨be BK350⟩, ⟨by repeat (first | (with_reducible first | exact HB.out | apply below_alloc | apply pw_below_drewN | apply below_drew1 | refine below_set ?_ GE349.out | refine below_set ?_ GE350.out) | exact HB.out)⟩⟩
  case rest =>
   clear HC6
   try clear c1
   try clear c2
   try clear p2
   try clear c5
   try clear c6
   try clear c9
   try clear c12
   try clear c12b0
   try clear hcz10_0 hcz10_1 hcz10_2
   try clear hfz10_0 hfz10_1 hfz10_2
   obtain ⟨kq, x16_5, rfl, HA, HJ5, BK349, BK350, HB⟩ := hcut
   cases kq with
   | zero => exact absurd HA.out (by simp [impl_MultiplyBall.j0])
   | succ kj5 =>
    have H := HA.out
    clear HA
    simp only [impl_MultiplyBall.j0] at H
    by_cases c13 : x16_5 = true
    ·subst c13
     have H1 : (some (0, 0, 0, 2)) = some (r1, r2, r3, r4) := by rw [if_pos rfl] at H; exact H
     clear H
     have H := H1
     clear H1
     simp only [Option.some.injEq, Prod.mk.injEq] at H
     obtain ⟨rfl, rfl, rfl, rfl⟩ := H
     have hnb14 := NB350_349.out
     have hnc14 := NB349_350.out
     have hcz15_0 : wc.cell? ⟨gb350, 0, none⟩ = some (.int .i64 0) := (blk_cell BK350.out 0).trans rfl
     have hcz15_1 : wc.cell? ⟨gb350, 1, none⟩ = some (.int .i64 0) := (blk_cell BK350.out 1).trans rfl
     have hcz15_2 : wc.cell? ⟨gb350, 2, none⟩ = some (.int .i64 0) := (blk_cell BK350.out 2).trans rfl
     have hfz15_0 := blk_frozen BK350.out 0
     have hfz15_1 := blk_frozen BK350.out 1
     have hfz15_2 := blk_frozen BK350.out 2
     go_wp2
     refine bodyPost_ret (results_ct rfl _ _ gb350 27 #[.int .i64 0, .int .i64 0, .int .i64 0] (0, 0) _ rfl (by (with_reducible repeat (first | apply bn | apply bd | apply ba)); refine blk_put (cs := #[.int .i64 0, .int .i64 0, .int .i64 0]) ?_ 2 _ rfl; (with_reducible repeat (first | apply bn | apply bd | apply ba)); refine blk_put (cs := #[.int .i64 0, .int .i64 0, .int .i64 0]) ?_ 1 _ rfl; (with_reducible repeat (first | apply bn | apply bd | apply ba)); refine blk_put (cs := #[.int .i64 0, .int .i64 0, .int .i64 0]) ?_ 0 _ rfl; (with_reducible repeat (first | apply bn | apply bd | apply ba)); exact BK350.out) Try.underlying27 rfl (by kernel_rfl)) rfl ?_
     exact ⟨by first | rfl | (simp [errW_none, errW_some] <;> rfl) | (simp [*, errW_none, errW_some] <;> rfl), by repeat (first | (with_reducible first | exact HB.out | apply below_alloc | apply pw_below_drewN | apply below_drew1 | refine below_set ?_ GE349.out | refine below_set ?_ GE350.out) | exact HB.out)⟩
    ·replace c13 := Bool.eq_false_iff.mpr c13
     subst c13
     have H1 : ((impl_isLevel.f (wrap64 (a1_0 + a2))).bind fun t352 => (if t352 = true then (if a2 ≥ 0 then ((impl_mark.f kj5 a0 a1_0 a1_1 a1_2).bind fun t353 => ((impl_power.f kj5 a0 a2).bind fun t354 => ((impl_ofMark.f kj5 a0 (wrap64 (a1_0 + a2)) (wrap64 (t353 * t354))).bind fun bt355 => ((impl_fitted.f bt355.1 bt355.2.1 bt355.2.2.1 bt355.2.2.2).bind fun bt359 => (some (bt359.1, bt359.2.1, bt359.2.2.1, bt359.2.2.2)))))) else ((impl_mark.f kj5 a0 a1_0 a1_1 a1_2).bind fun t363 => ((impl_power.f kj5 a0 (wrap64 (-a2))).bind fun t364 => (if t364 = 0 then (none) else (if (Int.tmod t363 t364) = 0 then ((impl_ofMark.f kj5 a0 (wrap64 (a1_0 + a2)) (wrap64 (Int.tdiv t363 t364))).bind fun bt365 => ((impl_fitted.f bt365.1 bt365.2.1 bt365.2.2.1 bt365.2.2.2).bind fun bt369 => (some (bt369.1, bt369.2.1, bt369.2.2.1, bt369.2.2.2)))) else (some (0, 0, 0, 3))))))) else (some (0, 0, 0, 3)))) = some (r1, r2, r3, r4) := by rw [if_neg (show ¬ (false = true) by decide)] at H; exact H
     clear H
     have H := H1
     clear H1
     replace H := Option.bind_eq_some_iff.mp H
     obtain ⟨t352, A160, H⟩ := H
     replace H : (if t352 = true then (if a2 ≥ 0 then ((impl_mark.f kj5 a0 a1_0 a1_1 a1_2).bind fun t353 => ((impl_power.f kj5 a0 a2).bind fun t354 => ((impl_ofMark.f kj5 a0 (wrap64 (a1_0 + a2)) (wrap64 (t353 * t354))).bind fun bt355 => ((impl_fitted.f bt355.1 bt355.2.1 bt355.2.2.1 bt355.2.2.2).bind fun bt359 => (some (bt359.1, bt359.2.1, bt359.2.2.1, bt359.2.2.2)))))) else ((impl_mark.f kj5 a0 a1_0 a1_1 a1_2).bind fun t363 => ((impl_power.f kj5 a0 (wrap64 (-a2))).bind fun t364 => (if t364 = 0 then (none) else (if (Int.tmod t363 t364) = 0 then ((impl_ofMark.f kj5 a0 (wrap64 (a1_0 + a2)) (wrap64 (Int.tdiv t363 t364))).bind fun bt365 => ((impl_fitted.f bt365.1 bt365.2.1 bt365.2.2.1 bt365.2.2.2).bind fun bt369 => (some (bt369.1, bt369.2.1, bt369.2.2.1, bt369.2.2.2)))) else (some (0, 0, 0, 3))))))) else (some (0, 0, 0, 3))) = some (r1, r2, r3, r4) := H
     have A16 := Aside0.mk A160
     clear A160
     by_cases c17 : t352 = true
     ·subst c17
      have H1 : (if a2 ≥ 0 then ((impl_mark.f kj5 a0 a1_0 a1_1 a1_2).bind fun t353 => ((impl_power.f kj5 a0 a2).bind fun t354 => ((impl_ofMark.f kj5 a0 (wrap64 (a1_0 + a2)) (wrap64 (t353 * t354))).bind fun bt355 => ((impl_fitted.f bt355.1 bt355.2.1 bt355.2.2.1 bt355.2.2.2).bind fun bt359 => (some (bt359.1, bt359.2.1, bt359.2.2.1, bt359.2.2.2)))))) else ((impl_mark.f kj5 a0 a1_0 a1_1 a1_2).bind fun t363 => ((impl_power.f kj5 a0 (wrap64 (-a2))).bind fun t364 => (if t364 = 0 then (none) else (if (Int.tmod t363 t364) = 0 then ((impl_ofMark.f kj5 a0 (wrap64 (a1_0 + a2)) (wrap64 (Int.tdiv t363 t364))).bind fun bt365 => ((impl_fitted.f bt365.1 bt365.2.1 bt365.2.2.1 bt365.2.2.2).bind fun bt369 => (some (bt369.1, bt369.2.1, bt369.2.2.1, bt369.2.2.2)))) else (some (0, 0, 0, 3))))))) = some (r1, r2, r3, r4) := by rw [if_pos rfl] at H; exact H
      clear H
      have H := H1
      clear H1
      by_cases c18 : a2 ≥ 0
      ·rw [if_pos c18] at H
       have c18b0 : decide (0 ≤ a2) = true := decide_eq_true c18
       clear c18
       replace H := Option.bind_eq_some_iff.mp H
       obtain ⟨t353, A190, H⟩ := H
       replace H : ((impl_power.f kj5 a0 a2).bind fun t354 => ((impl_ofMark.f kj5 a0 (wrap64 (a1_0 + a2)) (wrap64 (t353 * t354))).bind fun bt355 => ((impl_fitted.f bt355.1 bt355.2.1 bt355.2.2.1 bt355.2.2.2).bind fun bt359 => (some (bt359.1, bt359.2.1, bt359.2.2.1, bt359.2.2.2))))) = some (r1, r2, r3, r4) := H
       have A19 := Aside0.mk A190
       clear A190
       replace H := Option.bind_eq_some_iff.mp H
       obtain ⟨t354, A200, H⟩ := H
       replace H : ((impl_ofMark.f kj5 a0 (wrap64 (a1_0 + a2)) (wrap64 (t353 * t354))).bind fun bt355 => ((impl_fitted.f bt355.1 bt355.2.1 bt355.2.2.1 bt355.2.2.2).bind fun bt359 => (some (bt359.1, bt359.2.1, bt359.2.2.1, bt359.2.2.2)))) = some (r1, r2, r3, r4) := H
       have A20 := Aside0.mk A200
       clear A200
       replace H := Option.bind_eq_some_iff.mp H
       obtain ⟨⟨t355, t356, t357, t358⟩, A210, H⟩ := H
       replace H : ((impl_fitted.f t355 t356 t357 t358).bind fun bt359 => (some (bt359.1, bt359.2.1, bt359.2.2.1, bt359.2.2.2))) = some (r1, r2, r3, r4) := H
       have A21 := Aside0.mk A210
       clear A210
       replace H := Option.bind_eq_some_iff.mp H
       obtain ⟨⟨t359, t360, t361, t362⟩, A220, H⟩ := H
       replace H : (some (t359, t360, t361, t362)) = some (r1, r2, r3, r4) := H
       have A22 := Aside0.mk A220
       clear A220
       simp only [Option.some.injEq, Prod.mk.injEq] at H
       obtain ⟨rfl, rfl, rfl, rfl⟩ := H
       have hnb23 := NB349_350.out
       have hnc23 := NB350_349.out
       have hcz24_0 : wc.cell? ⟨gb349, 0, none⟩ = some (.int .i64 a1_0) := (blk_cell BK349.out 0).trans rfl
       have hcz24_1 : wc.cell? ⟨gb349, 1, none⟩ = some (.int .i64 a1_1) := (blk_cell BK349.out 1).trans rfl
       have hcz24_2 : wc.cell? ⟨gb349, 2, none⟩ = some (.int .i64 a1_2) := (blk_cell BK349.out 2).trans rfl
       have hfz24_0 := blk_frozen BK349.out 0
       have hfz24_1 := blk_frozen BK349.out 1
       have hfz24_2 := blk_frozen BK349.out 2
       try go_wp2_with (first | ((with_reducible refine gate_callee (f := 102) rfl ?_); refine g1 (some 29) Try.func102 #[.int .i64 (wrap64 (a1_0 + a2))] ?_; (with_reducible refine (impl_isLevel.calls (wrap64 (a1_0 + a2)) true _ A16.out).mono ?_); rintro e w' ⟨rfl, ⟨nd, rfl⟩⟩; refine ⟨_, rfl, ?_⟩; (try (rw [drewN_self wc]; generalize hq_ : World.drewN wc _ = wc; have n0_ : Aside0 (wc.heap[gb349]? = some (.cells #[.int .i64 a1_0, .int .i64 a1_1, .int .i64 a1_2] 27 (0, 0))) := ⟨by rw [← hq_]; exact (be BK349)⟩; have n1_ : Aside0 (wc.heap[gb350]? = some (.cells #[.int .i64 0, .int .i64 0, .int .i64 0] 27 (0, 0))) := ⟨by rw [← hq_]; exact (be BK350)⟩; have n2_ : Aside0 (Below w.heap.size w wc) := ⟨by rw [← hq_]; exact (by repeat (first | (with_reducible first | exact HB.out | apply below_alloc | apply pw_below_drewN | apply below_drew1 | refine below_set ?_ GE349.out | refine below_set ?_ GE350.out) | exact HB.out))⟩; clear BK349 BK350 HB hq_; have BK349 := n0_; have BK350 := n1_; have HB := n2_; clear n0_ n1_ n2_)); have hcz24_0 : wc.cell? ⟨gb349, 0, none⟩ = some (.int .i64 a1_0) := (blk_cell BK349.out 0).trans rfl; have hcz24_1 : wc.cell? ⟨gb349, 1, none⟩ = some (.int .i64 a1_1) := (blk_cell BK349.out 1).trans rfl; have hcz24_2 : wc.cell? ⟨gb349, 2, none⟩ = some (.int .i64 a1_2) := (blk_cell BK349.out 2).trans rfl; have hfz24_0 := blk_frozen BK349.out 0; have hfz24_1 := blk_frozen BK349.out 1; have hfz24_2 := blk_frozen BK349.out 2))
       have n0_ := Aside0.mk (blk_drew BK349.out)
       have n1_ := Aside0.mk (blk_drew BK350.out)
       have n2_ := Aside0.mk (below_drew1 HB.out)
       clear BK349
       clear BK350
       clear HB
       have BK349 := n0_
       have BK350 := n1_
       have HB := n2_
       clear n0_ n1_ n2_
       refine start_ (n := 20) (S := fun w' => w'.cell? ⟨gb349, 0, none⟩ = some (.int .i64 a1_0) ∧ w'.cell? ⟨gb349, 1, none⟩ = some (.int .i64 a1_1) ∧ w'.cell? ⟨gb349, 2, none⟩ = some (.int .i64 a1_2)) (ds := []) #[false, false, false, false, false, false, false, false, false, false, false, false, false, false, false, false, false, false, false, false] (by kernel_rfl) rfl rfl ⟨(blk_cell BK349.out 0).trans rfl, (blk_cell BK349.out 1).trans rfl, (blk_cell BK349.out 2).trans rfl⟩ (fun hHeld => ?_); refine with_tabW impl_MultiplyBall.tab8 impl_MultiplyBall.bits8 (fun HT_ HW_ => ?_)
       generalize wc.drew = w25 at BK349 BK350 HB hHeld ⊢
       refine pu 0 (some 35) #[true, false, false, false, false, false, false, false, false, false, false, false, false, false, false, false, false, false, false, false] HT_ ?_
       refine pu 1 (some 36) #[true, true, false, false, false, false, false, false, false, false, false, false, false, false, false, false, false, false, false, false] HT_ ?_
       refine pu 3 (some 38) #[true, true, false, true, false, false, false, false, false, false, false, false, false, false, false, false, false, false, false, false] HT_ ?_
       refine pu 5 (some 40) #[true, true, false, true, false, true, false, false, false, false, false, false, false, false, false, false, false, false, false, false] HT_ ?_
       refine pu 8 (some 43) #[true, true, false, true, false, true, false, false, true, false, false, false, false, false, false, false, false, false, false, false] HT_ ?_
       refine pu 9 (some 44) #[true, true, false, true, false, true, false, false, true, true, false, false, false, false, false, false, false, false, false, false] HT_ ?_
       refine take_ (i := 2) (N := some 37) (v := ?_) (a' := ?_) #[true, true, true, true, false, true, false, false, true, true, false, false, false, false, false, false, false, false, false, false] rfl rfl (take_ofW HT_.out HW_.out (by kernel_rfl)) (fun _ _ _ h => h) (Or.inl ⟨by rfl, ?_⟩) hHeld ?_ ?_
       rotate_left
       ·rintro w' ⟨s0, s1, s2⟩
        go_simp
        with_reducible rfl
       rotate_left
       ·simp only [Act.put, List.setIfInBounds_toArray, List.set_cons_zero, List.set_cons_succ, i64_w, i32_w]
        rfl
       refine pu 4 (some 39) #[true, true, true, true, true, true, false, false, true, true, false, false, false, false, false, false, false, false, false, false] HT_ ?_
       refine take_ (i := 6) (N := some 41) (v := ?_) (a' := ?_) #[true, true, true, true, true, true, true, false, true, true, false, false, false, false, false, false, false, false, false, false] rfl rfl (take_ofW HT_.out HW_.out (by kernel_rfl)) (fun _ _ _ h => h) (Or.inl ⟨by rfl, ?_⟩) hHeld ?_ ?_
       rotate_left
       ·rintro w' ⟨s0, s1, s2⟩
        go_simp
        with_reducible rfl
       rotate_left
       ·simp only [Act.put, List.setIfInBounds_toArray, List.set_cons_zero, List.set_cons_succ, i64_w, i32_w]
        rfl
       refine one_ (i := 7) (N := some 42) #[true, true, true, true, true, true, true, true, true, true, false, false, false, false, false, false, false, false, false, false] rfl rfl (one_of HT_.out (by kernel_rfl)) (by decide) (fun K hK => ?_)
       refine goes_ Try.func95 (by kernel_rfl) rfl #[.int .i64 a0, .agg #[.int .i64 a1_0, .int .i64 a1_1, .int .i64 a1_2]] (by rfl) rfl rfl (by (try simp only [List.map_toArray, List.map_cons, List.map_nil]); first | done | rfl | (simp only [List.length_drop, List.length_take]; rfl)) ?_
       with_reducible refine (impl_mark.calls kj5 a0 a1_0 a1_1 a1_2 t353 _ A19.out).mono ?_
       rintro e w26 ⟨rfl, hb⟩
       refine ⟨_, rfl, ?_⟩
       have n0_ := bb BK349 hb
       have n1_ := bb BK350 hb
       have n2_ := Aside0.mk (below_step (by repeat (first | (with_reducible first | exact HB.out | apply below_alloc | apply pw_below_drewN | apply below_drew1 | refine below_set ?_ GE349.out | refine below_set ?_ GE350.out) | exact HB.out)) hb)
       clear BK349
       clear BK350
       clear HB
       have BK349 := n0_
       have BK350 := n1_
       have HB := n2_
       clear n0_ n1_ n2_
       (try clear hb)
       (try clear hb2)
       (try clear hk)
       (try clear hi)
       refine hK.out _ _ ⟨(blk_cell BK349.out 0).trans rfl, (blk_cell BK349.out 1).trans rfl, (blk_cell BK349.out 2).trans rfl⟩ (fun hHeld => ?_)
       clear hK K
       refine norm_ (a' := ?_) ?_ ?_
       rotate_left
       ·show Act.put _ (some 42) _ = _
        simp only [Act.put, List.setIfInBounds_toArray, List.set_cons_zero, List.set_cons_succ, i64_w, i32_w]
        rfl
       refine one_ (i := 10) (N := some 45) #[true, true, true, true, true, true, true, true, true, true, true, false, false, false, false, false, false, false, false, false] rfl rfl (one_of HT_.out (by kernel_rfl)) (by decide) (fun K hK => ?_)
       refine goes_ Try.func103 (by kernel_rfl) rfl #[.int .i64 a0, .int .i64 a2] (by rfl) rfl rfl (by (try simp only [List.map_toArray, List.map_cons, List.map_nil]); first | done | rfl | (simp only [List.length_drop, List.length_take]; rfl)) ?_
       with_reducible refine (impl_power.calls kj5 a0 a2 t354 _ A20.out).mono ?_
       rintro e w' ⟨rfl, ⟨nd, rfl⟩⟩
       refine ⟨_, rfl, ?_⟩
       refine hK.out _ _ ⟨(blk_cell BK349.out 0).trans rfl, (blk_cell BK349.out 1).trans rfl, (blk_cell BK349.out 2).trans rfl⟩ (fun hHeld => ?_)
       clear hK K
       refine norm_ (a' := ?_) ?_ ?_
       rotate_left
       ·show Act.put _ (some 45) _ = _
        simp only [Act.put, List.setIfInBounds_toArray, List.set_cons_zero, List.set_cons_succ, i64_w, i32_w]
        rfl
       refine pu 11 (some 46) #[true, true, true, true, true, true, true, true, true, true, true, true, false, false, false, false, false, false, false, false] HT_ ?_
       refine one_ (i := 12) (N := some 47) #[true, true, true, true, true, true, true, true, true, true, true, true, true, false, false, false, false, false, false, false] rfl rfl (one_of HT_.out (by kernel_rfl)) (by decide) (fun K hK => ?_)
       refine goes_ Try.func94 (by kernel_rfl) rfl #[.int .i64 a0, .int .i64 (wrap64 (a1_0 + a2)), .int .i64 (wrap64 (t353 * t354))] (by rfl) rfl rfl (by (try simp only [List.map_toArray, List.map_cons, List.map_nil]); first | done | rfl | (simp only [List.length_drop, List.length_take]; rfl)) ?_
       with_reducible refine (impl_ofMark.calls kj5 a0 (wrap64 (a1_0 + a2)) (wrap64 (t353 * t354)) t355 t356 t357 t358 _ A21.out).mono ?_
       rintro e w27 ⟨rfl, hb⟩
       refine ⟨_, rfl, ?_⟩
       have n0_ := bb BK349 hb
       have n1_ := bb BK350 hb
       have n2_ := Aside0.mk (below_step (by repeat (first | (with_reducible first | exact HB.out | apply below_alloc | apply pw_below_drewN | apply below_drew1 | refine below_set ?_ GE349.out | refine below_set ?_ GE350.out) | exact HB.out)) hb)
       clear BK349
       clear BK350
       clear HB
       have BK349 := n0_
       have BK350 := n1_
       have HB := n2_
       clear n0_ n1_ n2_
       (try clear hb)
       (try clear hb2)
       (try clear hk)
       (try clear hi)
       refine hK.out _ _ ⟨(blk_cell BK349.out 0).trans rfl, (blk_cell BK349.out 1).trans rfl, (blk_cell BK349.out 2).trans rfl⟩ (fun hHeld => ?_)
       clear hK K
       refine norm_ (a' := ?_) ?_ ?_
       rotate_left
       ·show Act.put _ (some 47) _ = _
        simp only [Act.put, List.setIfInBounds_toArray, List.set_cons_zero, List.set_cons_succ, i64_w, i32_w]
        rfl
       refine pu 13 (some 48) #[true, true, true, true, true, true, true, true, true, true, true, true, true, true, false, false, false, false, false, false] HT_ ?_
       refine pu 14 (some 49) #[true, true, true, true, true, true, true, true, true, true, true, true, true, true, true, false, false, false, false, false] HT_ ?_
       refine one_ (i := 15) (N := some 50) #[true, true, true, true, true, true, true, true, true, true, true, true, true, true, true, true, false, false, false, false] rfl rfl (one_of HT_.out (by kernel_rfl)) (by decide) (fun K hK => ?_)
       refine goes_ Try.func93 (by kernel_rfl) rfl #[.agg #[.int .i64 t355, .int .i64 t356, .int .i64 t357], .bool t358] (by rfl) rfl rfl (by (try simp only [List.map_toArray, List.map_cons, List.map_nil]); first | done | rfl | (simp only [List.length_drop, List.length_take]; rfl)) ?_
       with_reducible refine (impl_fitted.calls t355 t356 t357 t358 t359 t360 t361 t362 _ A22.out).mono ?_
       rintro e w28 ⟨rfl, hb⟩
       refine ⟨_, rfl, ?_⟩
       have n0_ := bb BK349 hb
       have n1_ := bb BK350 hb
       have n2_ := Aside0.mk (below_step (by repeat (first | (with_reducible first | exact HB.out | apply below_alloc | apply pw_below_drewN | apply below_drew1 | refine below_set ?_ GE349.out | refine below_set ?_ GE350.out) | exact HB.out)) hb)
       clear BK349
       clear BK350
       clear HB
       have BK349 := n0_
       have BK350 := n1_
       have HB := n2_
       clear n0_ n1_ n2_
       (try clear hb)
       (try clear hb2)
       (try clear hk)
       (try clear hi)
       refine hK.out _ _ ⟨(blk_cell BK349.out 0).trans rfl, (blk_cell BK349.out 1).trans rfl, (blk_cell BK349.out 2).trans rfl⟩ (fun hHeld => ?_)
       clear hK K
       refine norm_ (a' := ?_) ?_ ?_
       rotate_left
       ·show Act.put _ (some 50) _ = _
        simp only [Act.put, List.setIfInBounds_toArray, List.set_cons_zero, List.set_cons_succ, i64_w, i32_w]
        rfl
       refine pu 16 (some 51) #[true, true, true, true, true, true, true, true, true, true, true, true, true, true, true, true, true, false, false, false] HT_ ?_
       refine pu 17 (some 52) #[true, true, true, true, true, true, true, true, true, true, true, true, true, true, true, true, true, true, false, false] HT_ ?_
       refine one_ (i := 18) (N := none) #[true, true, true, true, true, true, true, true, true, true, true, true, true, true, true, true, true, true, true, false] rfl rfl (one_of HT_.out (by kernel_rfl)) (by decide) (fun K hK => ?_)
       have hs29 : w28.cell? ⟨gb350, 0, none⟩ = some (.int .i64 0) := (blk_cell BK350.out 0).trans rfl
       have hfs29 := blk_frozen BK350.out 0
       have hns29_0 := NB349_350.out
       have hms29_0 := NB350_349.out
       have hs30 : w28.cell? ⟨gb350, 1, none⟩ = some (.int .i64 0) := (blk_cell BK350.out 1).trans rfl
       have hfs30 := blk_frozen BK350.out 1
       have hns30_0 := NB349_350.out
       have hms30_0 := NB350_349.out
       have hs31 : w28.cell? ⟨gb350, 2, none⟩ = some (.int .i64 0) := (blk_cell BK350.out 2).trans rfl
       have hfs31 := blk_frozen BK350.out 2
       have hns31_0 := NB349_350.out
       have hms31_0 := NB350_349.out
       refine skip_ (w1 := ?_) (by rfl) rfl ?_ ?_
       rotate_left
       ·go_simp
        rfl
       refine hK.out _ _ ⟨((cell_far (p := ⟨gb350, _, none⟩) NB349_350.out _).trans (((cell_far (p := ⟨gb350, _, none⟩) NB349_350.out _).trans (((cell_far (p := ⟨gb350, _, none⟩) NB349_350.out _).trans (hHeld.1)))))), ((cell_far (p := ⟨gb350, _, none⟩) NB349_350.out _).trans (((cell_far (p := ⟨gb350, _, none⟩) NB349_350.out _).trans (((cell_far (p := ⟨gb350, _, none⟩) NB349_350.out _).trans (hHeld.2.1)))))), ((cell_far (p := ⟨gb350, _, none⟩) NB349_350.out _).trans (((cell_far (p := ⟨gb350, _, none⟩) NB349_350.out _).trans (((cell_far (p := ⟨gb350, _, none⟩) NB349_350.out _).trans (hHeld.2.2))))))⟩ (fun hHeld => ?_)
       clear hK K
       refine pu 19 (some 7) #[true, true, true, true, true, true, true, true, true, true, true, true, true, true, true, true, true, true, true, true] HT_ ?_
       refine done_ (done_of HT_.out (by kernel_rfl)) ?_
       try go_wp2
       refine bodyPost_ret (results_ct rfl _ _ gb350 27 #[.int .i64 t359, .int .i64 t360, .int .i64 t361] (0, 0) _ rfl (by (with_reducible repeat (first | apply bn | apply bd | apply ba)); refine blk_put (cs := #[.int .i64 t359, .int .i64 t360, .int .i64 0]) ?_ 2 _ rfl; (with_reducible repeat (first | apply bn | apply bd | apply ba)); refine blk_put (cs := #[.int .i64 t359, .int .i64 0, .int .i64 0]) ?_ 1 _ rfl; (with_reducible repeat (first | apply bn | apply bd | apply ba)); refine blk_put (cs := #[.int .i64 0, .int .i64 0, .int .i64 0]) ?_ 0 _ rfl; (with_reducible repeat (first | apply bn | apply bd | apply ba)); exact BK350.out) Try.underlying27 rfl (by kernel_rfl)) rfl ?_
       exact ⟨by first | rfl | (simp [errW_none, errW_some] <;> rfl) | (simp [*, errW_none, errW_some] <;> rfl), by repeat (first | (with_reducible first | exact HB.out | apply below_alloc | apply pw_below_drewN | apply below_drew1 | refine below_set ?_ GE349.out | refine below_set ?_ GE350.out) | exact HB.out)⟩
      ·rw [if_neg c18] at H
       have c18b0 : decide (0 ≤ a2) = false := decide_eq_false c18
       clear c18
       replace H := Option.bind_eq_some_iff.mp H
       obtain ⟨t363, A320, H⟩ := H
       replace H : ((impl_power.f kj5 a0 (wrap64 (-a2))).bind fun t364 => (if t364 = 0 then (none) else (if (Int.tmod t363 t364) = 0 then ((impl_ofMark.f kj5 a0 (wrap64 (a1_0 + a2)) (wrap64 (Int.tdiv t363 t364))).bind fun bt365 => ((impl_fitted.f bt365.1 bt365.2.1 bt365.2.2.1 bt365.2.2.2).bind fun bt369 => (some (bt369.1, bt369.2.1, bt369.2.2.1, bt369.2.2.2)))) else (some (0, 0, 0, 3))))) = some (r1, r2, r3, r4) := H
       have A32 := Aside0.mk A320
       clear A320
       replace H := Option.bind_eq_some_iff.mp H
       obtain ⟨t364, A330, H⟩ := H
       replace H : (if t364 = 0 then (none) else (if (Int.tmod t363 t364) = 0 then ((impl_ofMark.f kj5 a0 (wrap64 (a1_0 + a2)) (wrap64 (Int.tdiv t363 t364))).bind fun bt365 => ((impl_fitted.f bt365.1 bt365.2.1 bt365.2.2.1 bt365.2.2.2).bind fun bt369 => (some (bt369.1, bt369.2.1, bt369.2.2.1, bt369.2.2.2)))) else (some (0, 0, 0, 3)))) = some (r1, r2, r3, r4) := H
       have A33 := Aside0.mk A330
       clear A330
       by_cases c34 : t364 = 0
       ·rw [if_pos c34] at H
        exact absurd H (by simp)
       ·rw [if_neg c34] at H
        have c34b0 : (t364 == 0) = false := beq_eq_false_iff_ne.mpr c34
        have c34b1 : (t364 != 0) = true := bne_iff_ne.mpr c34
        by_cases c35 : (Int.tmod t363 t364) = 0
        ·rw [if_pos c35] at H
         have c35b0 : ((Int.tmod t363 t364) == 0) = true := beq_iff_eq.mpr c35
         have c35b1 : ((Int.tmod t363 t364) != 0) = false := bne_eq_false_iff_eq.mpr c35
         clear c35
         replace H := Option.bind_eq_some_iff.mp H
         obtain ⟨⟨t365, t366, t367, t368⟩, A360, H⟩ := H
         replace H : ((impl_fitted.f t365 t366 t367 t368).bind fun bt369 => (some (bt369.1, bt369.2.1, bt369.2.2.1, bt369.2.2.2))) = some (r1, r2, r3, r4) := H
         have A36 := Aside0.mk A360
         clear A360
         replace H := Option.bind_eq_some_iff.mp H
         obtain ⟨⟨t369, t370, t371, t372⟩, A370, H⟩ := H
         replace H : (some (t369, t370, t371, t372)) = some (r1, r2, r3, r4) := H
         have A37 := Aside0.mk A370
         clear A370
         simp only [Option.some.injEq, Prod.mk.injEq] at H
         obtain ⟨rfl, rfl, rfl, rfl⟩ := H
         have hnb38 := NB349_350.out
         have hnc38 := NB350_349.out
         have hcz39_0 : wc.cell? ⟨gb349, 0, none⟩ = some (.int .i64 a1_0) := (blk_cell BK349.out 0).trans rfl
         have hcz39_1 : wc.cell? ⟨gb349, 1, none⟩ = some (.int .i64 a1_1) := (blk_cell BK349.out 1).trans rfl
         have hcz39_2 : wc.cell? ⟨gb349, 2, none⟩ = some (.int .i64 a1_2) := (blk_cell BK349.out 2).trans rfl
         have hfz39_0 := blk_frozen BK349.out 0
         have hfz39_1 := blk_frozen BK349.out 1
         have hfz39_2 := blk_frozen BK349.out 2
         try go_wp2_with (first | ((with_reducible refine gate_callee (f := 102) rfl ?_); refine g1 (some 29) Try.func102 #[.int .i64 (wrap64 (a1_0 + a2))] ?_; (with_reducible refine (impl_isLevel.calls (wrap64 (a1_0 + a2)) true _ A16.out).mono ?_); rintro e w' ⟨rfl, ⟨nd, rfl⟩⟩; refine ⟨_, rfl, ?_⟩; (try (rw [drewN_self wc]; generalize hq_ : World.drewN wc _ = wc; have n0_ : Aside0 (wc.heap[gb349]? = some (.cells #[.int .i64 a1_0, .int .i64 a1_1, .int .i64 a1_2] 27 (0, 0))) := ⟨by rw [← hq_]; exact (be BK349)⟩; have n1_ : Aside0 (wc.heap[gb350]? = some (.cells #[.int .i64 0, .int .i64 0, .int .i64 0] 27 (0, 0))) := ⟨by rw [← hq_]; exact (be BK350)⟩; have n2_ : Aside0 (Below w.heap.size w wc) := ⟨by rw [← hq_]; exact (by repeat (first | (with_reducible first | exact HB.out | apply below_alloc | apply pw_below_drewN | apply below_drew1 | refine below_set ?_ GE349.out | refine below_set ?_ GE350.out) | exact HB.out))⟩; clear BK349 BK350 HB hq_; have BK349 := n0_; have BK350 := n1_; have HB := n2_; clear n0_ n1_ n2_)); have hcz39_0 : wc.cell? ⟨gb349, 0, none⟩ = some (.int .i64 a1_0) := (blk_cell BK349.out 0).trans rfl; have hcz39_1 : wc.cell? ⟨gb349, 1, none⟩ = some (.int .i64 a1_1) := (blk_cell BK349.out 1).trans rfl; have hcz39_2 : wc.cell? ⟨gb349, 2, none⟩ = some (.int .i64 a1_2) := (blk_cell BK349.out 2).trans rfl; have hfz39_0 := blk_frozen BK349.out 0; have hfz39_1 := blk_frozen BK349.out 1; have hfz39_2 := blk_frozen BK349.out 2) | ((with_reducible refine gate_callee (f := 95) rfl ?_); refine g1 (some 55) Try.func95 #[.int .i64 a0, .agg #[.int .i64 a1_0, .int .i64 a1_1, .int .i64 a1_2]] ?_; (with_reducible refine (impl_mark.calls kj5 a0 a1_0 a1_1 a1_2 t363 _ A32.out).mono ?_); rintro e w40 ⟨rfl, hb⟩; refine ⟨_, rfl, ?_⟩; replace BK349 := bb BK349 hb; replace BK350 := bb BK350 hb; replace HB := bs hb; (try clear hb); (try clear hb2); (try clear hk); (try clear hi)) | ((with_reducible refine gate_callee (f := 103) rfl ?_); refine g1 (some 59) Try.func103 #[.int .i64 a0, .int .i64 (wrap64 (-a2))] ?_; (with_reducible refine (impl_power.calls kj5 a0 (wrap64 (-a2)) t364 _ A33.out).mono ?_); rintro e w' ⟨rfl, ⟨nd, rfl⟩⟩; refine ⟨_, rfl, ?_⟩; (try (rw [drewN_self w40]; generalize hq_ : World.drewN w40 _ = w40; have n0_ : Aside0 (w40.heap[gb349]? = some (.cells #[.int .i64 a1_0, .int .i64 a1_1, .int .i64 a1_2] 27 (0, 0))) := ⟨by rw [← hq_]; exact (be BK349)⟩; have n1_ : Aside0 (w40.heap[gb350]? = some (.cells #[.int .i64 0, .int .i64 0, .int .i64 0] 27 (0, 0))) := ⟨by rw [← hq_]; exact (be BK350)⟩; have n2_ : Aside0 (Below w.heap.size w w40) := ⟨by rw [← hq_]; exact (by repeat (first | (with_reducible first | exact HB.out | apply below_alloc | apply pw_below_drewN | apply below_drew1 | refine below_set ?_ GE349.out | refine below_set ?_ GE350.out) | exact HB.out))⟩; clear BK349 BK350 HB hq_; have BK349 := n0_; have BK350 := n1_; have HB := n2_; clear n0_ n1_ n2_)); obtain ⟨hcz39_0, hcz39_1, hcz39_2, hfz39_0, hfz39_1, hfz39_2⟩ := c3 BK349))
         have n0_ := Aside0.mk (blk_drew BK349.out)
         have n1_ := Aside0.mk (blk_drew BK350.out)
         have n2_ := Aside0.mk (below_drew1 HB.out)
         clear BK349
         clear BK350
         clear HB
         have BK349 := n0_
         have BK350 := n1_
         have HB := n2_
         clear n0_ n1_ n2_
         refine start_ (n := 16) (S := fun w' => w'.cell? ⟨gb349, 0, none⟩ = some (.int .i64 a1_0) ∧ w'.cell? ⟨gb349, 1, none⟩ = some (.int .i64 a1_1) ∧ w'.cell? ⟨gb349, 2, none⟩ = some (.int .i64 a1_2)) (ds := []) #[false, false, false, false, false, false, false, false, false, false, false, false, false, false, false, false] (by kernel_rfl) rfl rfl ⟨(blk_cell BK349.out 0).trans rfl, (blk_cell BK349.out 1).trans rfl, (blk_cell BK349.out 2).trans rfl⟩ (fun hHeld => ?_); refine with_tabW impl_MultiplyBall.tab12 impl_MultiplyBall.bits12 (fun HT_ HW_ => ?_)
         generalize w40.drew = w41 at BK349 BK350 HB hHeld ⊢
         refine pu 0 (some 65) #[true, false, false, false, false, false, false, false, false, false, false, false, false, false, false, false] HT_ ?_
         refine pu 1 (some 66) #[true, true, false, false, false, false, false, false, false, false, false, false, false, false, false, false] HT_ ?_
         refine pu 3 (some 68) #[true, true, false, true, false, false, false, false, false, false, false, false, false, false, false, false] HT_ ?_
         refine pu 5 (some 70) #[true, true, false, true, false, true, false, false, false, false, false, false, false, false, false, false] HT_ ?_
         refine pu 6 (some 71) #[true, true, false, true, false, true, true, false, false, false, false, false, false, false, false, false] HT_ ?_
         refine pu 7 (some 72) #[true, true, false, true, false, true, true, true, false, false, false, false, false, false, false, false] HT_ ?_
         refine take_ (i := 2) (N := some 67) (v := ?_) (a' := ?_) #[true, true, true, true, false, true, true, true, false, false, false, false, false, false, false, false] rfl rfl (take_ofW HT_.out HW_.out (by kernel_rfl)) (fun _ _ _ h => h) (Or.inl ⟨by rfl, ?_⟩) hHeld ?_ ?_
         rotate_left
         ·rintro w' ⟨s0, s1, s2⟩
          go_simp
          with_reducible rfl
         rotate_left
         ·simp only [Act.put, List.setIfInBounds_toArray, List.set_cons_zero, List.set_cons_succ, i64_w, i32_w]
          rfl
         refine pu 4 (some 69) #[true, true, true, true, true, true, true, true, false, false, false, false, false, false, false, false] HT_ ?_
         refine one_ (i := 8) (N := some 73) #[true, true, true, true, true, true, true, true, true, false, false, false, false, false, false, false] rfl rfl (one_of HT_.out (by kernel_rfl)) (by decide) (fun K hK => ?_)
         refine goes_ Try.func94 (by kernel_rfl) rfl #[.int .i64 a0, .int .i64 (wrap64 (a1_0 + a2)), .int .i64 (wrap64 (Int.tdiv t363 t364))] (by rfl) rfl rfl (by (try simp only [List.map_toArray, List.map_cons, List.map_nil]); first | done | rfl | (simp only [List.length_drop, List.length_take]; rfl)) ?_
         with_reducible refine (impl_ofMark.calls kj5 a0 (wrap64 (a1_0 + a2)) (wrap64 (Int.tdiv t363 t364)) t365 t366 t367 t368 _ A36.out).mono ?_
         rintro e w42 ⟨rfl, hb⟩
         refine ⟨_, rfl, ?_⟩
         have n0_ := bb BK349 hb
         have n1_ := bb BK350 hb
         have n2_ := Aside0.mk (below_step (by repeat (first | (with_reducible first | exact HB.out | apply below_alloc | apply pw_below_drewN | apply below_drew1 | refine below_set ?_ GE349.out | refine below_set ?_ GE350.out) | exact HB.out)) hb)
         clear BK349
         clear BK350
         clear HB
         have BK349 := n0_
         have BK350 := n1_
         have HB := n2_
         clear n0_ n1_ n2_
         (try clear hb)
         (try clear hb2)
         (try clear hk)
         (try clear hi)
         refine hK.out _ _ ⟨(blk_cell BK349.out 0).trans rfl, (blk_cell BK349.out 1).trans rfl, (blk_cell BK349.out 2).trans rfl⟩ (fun hHeld => ?_)
         clear hK K
         refine norm_ (a' := ?_) ?_ ?_
         rotate_left
         ·show Act.put _ (some 73) _ = _
          simp only [Act.put, List.setIfInBounds_toArray, List.set_cons_zero, List.set_cons_succ, i64_w, i32_w]
          rfl
         refine pu 9 (some 74) #[true, true, true, true, true, true, true, true, true, true, false, false, false, false, false, false] HT_ ?_
         refine pu 10 (some 75) #[true, true, true, true, true, true, true, true, true, true, true, false, false, false, false, false] HT_ ?_
         refine one_ (i := 11) (N := some 76) #[true, true, true, true, true, true, true, true, true, true, true, true, false, false, false, false] rfl rfl (one_of HT_.out (by kernel_rfl)) (by decide) (fun K hK => ?_)
         refine goes_ Try.func93 (by kernel_rfl) rfl #[.agg #[.int .i64 t365, .int .i64 t366, .int .i64 t367], .bool t368] (by rfl) rfl rfl (by (try simp only [List.map_toArray, List.map_cons, List.map_nil]); first | done | rfl | (simp only [List.length_drop, List.length_take]; rfl)) ?_
         with_reducible refine (impl_fitted.calls t365 t366 t367 t368 t369 t370 t371 t372 _ A37.out).mono ?_
         rintro e w43 ⟨rfl, hb⟩
         refine ⟨_, rfl, ?_⟩
         have n0_ := bb BK349 hb
         have n1_ := bb BK350 hb
         have n2_ := Aside0.mk (below_step (by repeat (first | (with_reducible first | exact HB.out | apply below_alloc | apply pw_below_drewN | apply below_drew1 | refine below_set ?_ GE349.out | refine below_set ?_ GE350.out) | exact HB.out)) hb)
         clear BK349
         clear BK350
         clear HB
         have BK349 := n0_
         have BK350 := n1_
         have HB := n2_
         clear n0_ n1_ n2_
         (try clear hb)
         (try clear hb2)
         (try clear hk)
         (try clear hi)
         refine hK.out _ _ ⟨(blk_cell BK349.out 0).trans rfl, (blk_cell BK349.out 1).trans rfl, (blk_cell BK349.out 2).trans rfl⟩ (fun hHeld => ?_)
         clear hK K
         refine norm_ (a' := ?_) ?_ ?_
         rotate_left
         ·show Act.put _ (some 76) _ = _
          simp only [Act.put, List.setIfInBounds_toArray, List.set_cons_zero, List.set_cons_succ, i64_w, i32_w]
          rfl
         refine pu 12 (some 77) #[true, true, true, true, true, true, true, true, true, true, true, true, true, false, false, false] HT_ ?_
         refine pu 13 (some 78) #[true, true, true, true, true, true, true, true, true, true, true, true, true, true, false, false] HT_ ?_
         refine one_ (i := 14) (N := none) #[true, true, true, true, true, true, true, true, true, true, true, true, true, true, true, false] rfl rfl (one_of HT_.out (by kernel_rfl)) (by decide) (fun K hK => ?_)
         have hs44 : w43.cell? ⟨gb350, 0, none⟩ = some (.int .i64 0) := (blk_cell BK350.out 0).trans rfl
         have hfs44 := blk_frozen BK350.out 0
         have hns44_0 := NB349_350.out
         have hms44_0 := NB350_349.out
         have hs45 : w43.cell? ⟨gb350, 1, none⟩ = some (.int .i64 0) := (blk_cell BK350.out 1).trans rfl
         have hfs45 := blk_frozen BK350.out 1
         have hns45_0 := NB349_350.out
         have hms45_0 := NB350_349.out
         have hs46 : w43.cell? ⟨gb350, 2, none⟩ = some (.int .i64 0) := (blk_cell BK350.out 2).trans rfl
         have hfs46 := blk_frozen BK350.out 2
         have hns46_0 := NB349_350.out
         have hms46_0 := NB350_349.out
         refine skip_ (w1 := ?_) (by rfl) rfl ?_ ?_
         rotate_left
         ·go_simp
          rfl
         refine hK.out _ _ ⟨((cell_far (p := ⟨gb350, _, none⟩) NB349_350.out _).trans (((cell_far (p := ⟨gb350, _, none⟩) NB349_350.out _).trans (((cell_far (p := ⟨gb350, _, none⟩) NB349_350.out _).trans (hHeld.1)))))), ((cell_far (p := ⟨gb350, _, none⟩) NB349_350.out _).trans (((cell_far (p := ⟨gb350, _, none⟩) NB349_350.out _).trans (((cell_far (p := ⟨gb350, _, none⟩) NB349_350.out _).trans (hHeld.2.1)))))), ((cell_far (p := ⟨gb350, _, none⟩) NB349_350.out _).trans (((cell_far (p := ⟨gb350, _, none⟩) NB349_350.out _).trans (((cell_far (p := ⟨gb350, _, none⟩) NB349_350.out _).trans (hHeld.2.2))))))⟩ (fun hHeld => ?_)
         clear hK K
         refine pu 15 (some 7) #[true, true, true, true, true, true, true, true, true, true, true, true, true, true, true, true] HT_ ?_
         refine done_ (done_of HT_.out (by kernel_rfl)) ?_
         try go_wp2
         refine bodyPost_ret (results_ct rfl _ _ gb350 27 #[.int .i64 t369, .int .i64 t370, .int .i64 t371] (0, 0) _ rfl (by (with_reducible repeat (first | apply bn | apply bd | apply ba)); refine blk_put (cs := #[.int .i64 t369, .int .i64 t370, .int .i64 0]) ?_ 2 _ rfl; (with_reducible repeat (first | apply bn | apply bd | apply ba)); refine blk_put (cs := #[.int .i64 t369, .int .i64 0, .int .i64 0]) ?_ 1 _ rfl; (with_reducible repeat (first | apply bn | apply bd | apply ba)); refine blk_put (cs := #[.int .i64 0, .int .i64 0, .int .i64 0]) ?_ 0 _ rfl; (with_reducible repeat (first | apply bn | apply bd | apply ba)); exact BK350.out) Try.underlying27 rfl (by kernel_rfl)) rfl ?_
         exact ⟨by first | rfl | (simp [errW_none, errW_some] <;> rfl) | (simp [*, errW_none, errW_some] <;> rfl), by repeat (first | (with_reducible first | exact HB.out | apply below_alloc | apply pw_below_drewN | apply below_drew1 | refine below_set ?_ GE349.out | refine below_set ?_ GE350.out) | exact HB.out)⟩
        ·rw [if_neg c35] at H
         have c35b0 : ((Int.tmod t363 t364) == 0) = false := beq_eq_false_iff_ne.mpr c35
         have c35b1 : ((Int.tmod t363 t364) != 0) = true := bne_iff_ne.mpr c35
         simp only [Option.some.injEq, Prod.mk.injEq] at H
         obtain ⟨rfl, rfl, rfl, rfl⟩ := H
         have hnb47 := NB349_350.out
         have hnc47 := NB350_349.out
         have hcz48_0 : wc.cell? ⟨gb349, 0, none⟩ = some (.int .i64 a1_0) := (blk_cell BK349.out 0).trans rfl
         have hcz48_1 : wc.cell? ⟨gb349, 1, none⟩ = some (.int .i64 a1_1) := (blk_cell BK349.out 1).trans rfl
         have hcz48_2 : wc.cell? ⟨gb349, 2, none⟩ = some (.int .i64 a1_2) := (blk_cell BK349.out 2).trans rfl
         have hfz48_0 := blk_frozen BK349.out 0
         have hfz48_1 := blk_frozen BK349.out 1
         have hfz48_2 := blk_frozen BK349.out 2
         go_wp2_with (first | ((with_reducible refine gate_callee (f := 102) rfl ?_); refine g1 (some 29) Try.func102 #[.int .i64 (wrap64 (a1_0 + a2))] ?_; (with_reducible refine (impl_isLevel.calls (wrap64 (a1_0 + a2)) true _ A16.out).mono ?_); rintro e w' ⟨rfl, ⟨nd, rfl⟩⟩; refine ⟨_, rfl, ?_⟩; (try (rw [drewN_self wc]; generalize hq_ : World.drewN wc _ = wc; have n0_ : Aside0 (wc.heap[gb349]? = some (.cells #[.int .i64 a1_0, .int .i64 a1_1, .int .i64 a1_2] 27 (0, 0))) := ⟨by rw [← hq_]; exact (be BK349)⟩; have n1_ : Aside0 (wc.heap[gb350]? = some (.cells #[.int .i64 0, .int .i64 0, .int .i64 0] 27 (0, 0))) := ⟨by rw [← hq_]; exact (be BK350)⟩; have n2_ : Aside0 (Below w.heap.size w wc) := ⟨by rw [← hq_]; exact (by repeat (first | (with_reducible first | exact HB.out | apply below_alloc | apply pw_below_drewN | apply below_drew1 | refine below_set ?_ GE349.out | refine below_set ?_ GE350.out) | exact HB.out))⟩; clear BK349 BK350 HB hq_; have BK349 := n0_; have BK350 := n1_; have HB := n2_; clear n0_ n1_ n2_)); have hcz48_0 : wc.cell? ⟨gb349, 0, none⟩ = some (.int .i64 a1_0) := (blk_cell BK349.out 0).trans rfl; have hcz48_1 : wc.cell? ⟨gb349, 1, none⟩ = some (.int .i64 a1_1) := (blk_cell BK349.out 1).trans rfl; have hcz48_2 : wc.cell? ⟨gb349, 2, none⟩ = some (.int .i64 a1_2) := (blk_cell BK349.out 2).trans rfl; have hfz48_0 := blk_frozen BK349.out 0; have hfz48_1 := blk_frozen BK349.out 1; have hfz48_2 := blk_frozen BK349.out 2) | ((with_reducible refine gate_callee (f := 95) rfl ?_); refine g1 (some 55) Try.func95 #[.int .i64 a0, .agg #[.int .i64 a1_0, .int .i64 a1_1, .int .i64 a1_2]] ?_; (with_reducible refine (impl_mark.calls kj5 a0 a1_0 a1_1 a1_2 t363 _ A32.out).mono ?_); rintro e w49 ⟨rfl, hb⟩; refine ⟨_, rfl, ?_⟩; replace BK349 := bb BK349 hb; replace BK350 := bb BK350 hb; replace HB := bs hb; (try clear hb); (try clear hb2); (try clear hk); (try clear hi)) | ((with_reducible refine gate_callee (f := 103) rfl ?_); refine g1 (some 59) Try.func103 #[.int .i64 a0, .int .i64 (wrap64 (-a2))] ?_; (with_reducible refine (impl_power.calls kj5 a0 (wrap64 (-a2)) t364 _ A33.out).mono ?_); rintro e w' ⟨rfl, ⟨nd, rfl⟩⟩; refine ⟨_, rfl, ?_⟩; (try (rw [drewN_self w49]; generalize hq_ : World.drewN w49 _ = w49; have n0_ : Aside0 (w49.heap[gb349]? = some (.cells #[.int .i64 a1_0, .int .i64 a1_1, .int .i64 a1_2] 27 (0, 0))) := ⟨by rw [← hq_]; exact (be BK349)⟩; have n1_ : Aside0 (w49.heap[gb350]? = some (.cells #[.int .i64 0, .int .i64 0, .int .i64 0] 27 (0, 0))) := ⟨by rw [← hq_]; exact (be BK350)⟩; have n2_ : Aside0 (Below w.heap.size w w49) := ⟨by rw [← hq_]; exact (by repeat (first | (with_reducible first | exact HB.out | apply below_alloc | apply pw_below_drewN | apply below_drew1 | refine below_set ?_ GE349.out | refine below_set ?_ GE350.out) | exact HB.out))⟩; clear BK349 BK350 HB hq_; have BK349 := n0_; have BK350 := n1_; have HB := n2_; clear n0_ n1_ n2_)); obtain ⟨hcz48_0, hcz48_1, hcz48_2, hfz48_0, hfz48_1, hfz48_2⟩ := c3 BK349; obtain ⟨hcz50_0, hcz50_1, hcz50_2, hfz50_0, hfz50_1, hfz50_2⟩ := c3 BK350))
         refine bodyPost_ret (results_ct rfl _ _ gb350 27 #[.int .i64 0, .int .i64 0, .int .i64 0] (0, 0) _ rfl (by (with_reducible repeat (first | apply bn | apply bd | apply ba)); refine blk_put (cs := #[.int .i64 0, .int .i64 0, .int .i64 0]) ?_ 2 _ rfl; (with_reducible repeat (first | apply bn | apply bd | apply ba)); refine blk_put (cs := #[.int .i64 0, .int .i64 0, .int .i64 0]) ?_ 1 _ rfl; (with_reducible repeat (first | apply bn | apply bd | apply ba)); refine blk_put (cs := #[.int .i64 0, .int .i64 0, .int .i64 0]) ?_ 0 _ rfl; (with_reducible repeat (first | apply bn | apply bd | apply ba)); exact BK350.out) Try.underlying27 rfl (by kernel_rfl)) rfl ?_
         exact ⟨by first | rfl | (simp [errW_none, errW_some] <;> rfl) | (simp [*, errW_none, errW_some] <;> rfl), by repeat (first | (with_reducible first | exact HB.out | apply below_alloc | apply pw_below_drewN | apply below_drew1 | refine below_set ?_ GE349.out | refine below_set ?_ GE350.out) | exact HB.out)⟩
     ·replace c17 := Bool.eq_false_iff.mpr c17
      subst c17
      have H1 : (some (0, 0, 0, 3)) = some (r1, r2, r3, r4) := by rw [if_neg (show ¬ (false = true) by decide)] at H; exact H
      clear H
      have H := H1
      clear H1
      simp only [Option.some.injEq, Prod.mk.injEq] at H
      obtain ⟨rfl, rfl, rfl, rfl⟩ := H
      have hnb51 := NB349_350.out
      have hnc51 := NB350_349.out
      have hcz52_0 : wc.cell? ⟨gb349, 0, none⟩ = some (.int .i64 a1_0) := (blk_cell BK349.out 0).trans rfl
      have hcz52_1 : wc.cell? ⟨gb349, 1, none⟩ = some (.int .i64 a1_1) := (blk_cell BK349.out 1).trans rfl
      have hcz52_2 : wc.cell? ⟨gb349, 2, none⟩ = some (.int .i64 a1_2) := (blk_cell BK349.out 2).trans rfl
      have hfz52_0 := blk_frozen BK349.out 0
      have hfz52_1 := blk_frozen BK349.out 1
      have hfz52_2 := blk_frozen BK349.out 2
      go_wp2_with (first | ((with_reducible refine gate_callee (f := 102) rfl ?_); refine g1 (some 29) Try.func102 #[.int .i64 (wrap64 (a1_0 + a2))] ?_; (with_reducible refine (impl_isLevel.calls (wrap64 (a1_0 + a2)) false _ A16.out).mono ?_); rintro e w' ⟨rfl, ⟨nd, rfl⟩⟩; refine ⟨_, rfl, ?_⟩; (try (rw [drewN_self wc]; generalize hq_ : World.drewN wc _ = wc; have n0_ : Aside0 (wc.heap[gb349]? = some (.cells #[.int .i64 a1_0, .int .i64 a1_1, .int .i64 a1_2] 27 (0, 0))) := ⟨by rw [← hq_]; exact (be BK349)⟩; have n1_ : Aside0 (wc.heap[gb350]? = some (.cells #[.int .i64 0, .int .i64 0, .int .i64 0] 27 (0, 0))) := ⟨by rw [← hq_]; exact (be BK350)⟩; have n2_ : Aside0 (Below w.heap.size w wc) := ⟨by rw [← hq_]; exact (by repeat (first | (with_reducible first | exact HB.out | apply below_alloc | apply pw_below_drewN | apply below_drew1 | refine below_set ?_ GE349.out | refine below_set ?_ GE350.out) | exact HB.out))⟩; clear BK349 BK350 HB hq_; have BK349 := n0_; have BK350 := n1_; have HB := n2_; clear n0_ n1_ n2_)); have hcz52_0 : wc.cell? ⟨gb349, 0, none⟩ = some (.int .i64 a1_0) := (blk_cell BK349.out 0).trans rfl; have hcz52_1 : wc.cell? ⟨gb349, 1, none⟩ = some (.int .i64 a1_1) := (blk_cell BK349.out 1).trans rfl; have hcz52_2 : wc.cell? ⟨gb349, 2, none⟩ = some (.int .i64 a1_2) := (blk_cell BK349.out 2).trans rfl; have hfz52_0 := blk_frozen BK349.out 0; have hfz52_1 := blk_frozen BK349.out 1; have hfz52_2 := blk_frozen BK349.out 2; have hcz53_0 : wc.cell? ⟨gb350, 0, none⟩ = some (.int .i64 0) := (blk_cell BK350.out 0).trans rfl; have hcz53_1 : wc.cell? ⟨gb350, 1, none⟩ = some (.int .i64 0) := (blk_cell BK350.out 1).trans rfl; have hcz53_2 : wc.cell? ⟨gb350, 2, none⟩ = some (.int .i64 0) := (blk_cell BK350.out 2).trans rfl; have hfz53_0 := blk_frozen BK350.out 0; have hfz53_1 := blk_frozen BK350.out 1; have hfz53_2 := blk_frozen BK350.out 2))
      refine bodyPost_ret (results_ct rfl _ _ gb350 27 #[.int .i64 0, .int .i64 0, .int .i64 0] (0, 0) _ rfl (by (with_reducible repeat (first | apply bn | apply bd | apply ba)); refine blk_put (cs := #[.int .i64 0, .int .i64 0, .int .i64 0]) ?_ 2 _ rfl; (with_reducible repeat (first | apply bn | apply bd | apply ba)); refine blk_put (cs := #[.int .i64 0, .int .i64 0, .int .i64 0]) ?_ 1 _ rfl; (with_reducible repeat (first | apply bn | apply bd | apply ba)); refine blk_put (cs := #[.int .i64 0, .int .i64 0, .int .i64 0]) ?_ 0 _ rfl; (with_reducible repeat (first | apply bn | apply bd | apply ba)); exact BK350.out) Try.underlying27 rfl (by kernel_rfl)) rfl ?_
      exact ⟨by first | rfl | (simp [errW_none, errW_some] <;> rfl) | (simp [*, errW_none, errW_some] <;> rfl), by repeat (first | (with_reducible first | exact HB.out | apply below_alloc | apply pw_below_drewN | apply below_drew1 | refine below_set ?_ GE349.out | refine below_set ?_ GE350.out) | exact HB.out)⟩
 ·replace c5 := Bool.eq_false_iff.mpr c5
  subst c5
  have H1 : (some (0, 0, 0, 1)) = some (r1, r2, r3, r4) := by rw [if_neg (show ¬ (false = true) by decide)] at H; exact H
  clear H
  have H := H1
  clear H1
  simp only [Option.some.injEq, Prod.mk.injEq] at H
  obtain ⟨rfl, rfl, rfl, rfl⟩ := H
  go_enter Try.func26, Try.ntmps26
  go_wp2_with (first | ((with_reducible refine gate_dst (N := 4) rfl ?_); refine bx (N := 4) (cs := #[.int .i64 a1_0, .int .i64 a1_1, .int .i64 a1_2]) (t := 27) ?_; intro gb349 hg w54 hbox hb; have BK349 := Aside0.mk (hbox); have GW349 := sg hg; have GE349 := sg hg; replace HB := bs hb; clear hb hbox hg) | ((with_reducible refine gate_dst (N := 6) rfl ?_); refine bx (N := 6) (cs := #[.int .i64 0, .int .i64 0, .int .i64 0]) (t := 27) ?_; intro gb350 hg w55 hbox hb; have BK350 := Aside0.mk (hbox); have GW350 := sg hg; have GE350 := sg hg; have NB349_350 := nl hg BK349; have NB350_349 := ng hg BK349; replace BK349 := bb BK349 hb; replace HB := bs hb; clear hb hbox hg; have hnb56 := NB349_350.out; have hnc56 := NB350_349.out; obtain ⟨hcz57_0, hcz57_1, hcz57_2, hfz57_0, hfz57_1, hfz57_2⟩ := c3 BK349) | ((with_reducible refine gate_callee (f := 65) rfl ?_); refine g1 (some 13) Try.func65 #[.int .i64 a0, .agg #[.int .i64 a1_0, .int .i64 a1_1, .int .i64 a1_2]] ?_; (with_reducible refine (impl_IsBall.calls k a0 a1_0 a1_1 a1_2 false _ A4.out).mono ?_); rintro e w58 ⟨rfl, hb⟩; refine ⟨_, rfl, ?_⟩; replace BK349 := bb BK349 hb; replace BK350 := bb BK350 hb; replace HB := bs hb; (try clear hb); (try clear hb2); (try clear hk); (try clear hi); obtain ⟨hcz59_0, hcz59_1, hcz59_2, hfz59_0, hfz59_1, hfz59_2⟩ := c3 BK350))
  refine bodyPost_ret (results_ct rfl _ _ gb350 27 #[.int .i64 0, .int .i64 0, .int .i64 0] (0, 0) _ rfl (by (with_reducible repeat (first | apply bn | apply bd | apply ba)); refine blk_put (cs := #[.int .i64 0, .int .i64 0, .int .i64 0]) ?_ 2 _ rfl; (with_reducible repeat (first | apply bn | apply bd | apply ba)); refine blk_put (cs := #[.int .i64 0, .int .i64 0, .int .i64 0]) ?_ 1 _ rfl; (with_reducible repeat (first | apply bn | apply bd | apply ba)); refine blk_put (cs := #[.int .i64 0, .int .i64 0, .int .i64 0]) ?_ 0 _ rfl; (with_reducible repeat (first | apply bn | apply bd | apply ba)); exact BK350.out) Try.underlying27 rfl (by kernel_rfl)) rfl ?_
  exact ⟨by first | rfl | (simp [errW_none, errW_some] <;> rfl) | (simp [*, errW_none, errW_some] <;> rfl), by repeat (first | (with_reducible first | exact HB.out | apply below_alloc | apply pw_below_drewN | apply below_drew1 | refine below_set ?_ GE349.out | refine below_set ?_ GE350.out) | exact HB.out)⟩

end Go.Proofs.Ytpmepopagapeiaa.PFnBallSums

-- Printed by the kit's print and repaired by a program of this session.
import Derived.Test.YtpmepopagapeiaaPFnMediansx0
import Derived.Test.YtpmepopagapeiaaPFnMediansx5
import Derived.Test.YtpmepopagapeiaaPFnMediansx6
namespace Go.Proofs.Ytpmepopagapeiaa.PFnMedians
open Go.RowKit Go.Proofs.YtpmepopagapeiaaW.PrintWords Go.Proofs.YtpmepopagapeiaaW.PrintLast Go.Proofs.YtpmepopagapeiaaW.PrintMore
attribute [local go_sem] max2_int min2_int max_two min_two max_three min_three max_four min_four
set_option linter.unusedVariables false
set_option linter.unusedSimpArgs false

/-! ### impl_distance: function 110 -/
def impl_distance.f (k : Nat) (a0 : Int) (a1_0 : Int) (a1_1 : Int) (a1_2 : Int) (a2_0 : Int) (a2_1 : Int) (a2_2 : Int) : Option (Int) := (impl_joinLevel.f k a0 a1_0 a1_1 a1_2 a2_0 a2_1 a2_2).bind fun t222 => (some (wrap64 ((wrap64 (a1_0 + a2_0)) - (wrap64 (2 * t222)))))
def impl_distance.T1 : Bool × List (List Nat × List Nat) := (true, [([], []), ([0], [0]), ([], []), ([2], [2]), ([1, 3], [1, 3]), ([], []), ([], []), ([], []), ([5, 6, 7], [5, 6, 7]), ([8], [8]), ([4, 9], [4, 9]), ([10, 8, 0, 1, 2, 3, 4, 5, 6, 7, 8, 9, 10], [10])])
def impl_distance.B1 : List Nat := [0, 1, 0, 4, 15, 0, 0, 0, 224, 480, 1023, 2047]
theorem impl_distance.tab1 : rtab .any (opsOf Try.f110 1) = impl_distance.T1 := by kernel_rfl
theorem impl_distance.bits1 : waitsOk impl_distance.T1.2 impl_distance.B1 = true := by kernel_rfl
set_option maxHeartbeats 8000000 in
set_option maxRecDepth 100000 in
theorem impl_distance.calls (k : Nat) (a0 : Int) (a1_0 : Int) (a1_1 : Int) (a1_2 : Int) (a2_0 : Int) (a2_1 : Int) (a2_2 : Int) (r : Int) (w : World) (h : impl_distance.f k a0 a1_0 a1_1 a1_2 a2_0 a2_1 a2_2 = some r) :
  Calls Try.prog 110 #[.int .i64 a0, .agg #[.int .i64 a1_0, .int .i64 a1_1, .int .i64 a1_2], .agg #[.int .i64 a2_0, .int .i64 a2_1, .int .i64 a2_2]] w fun e w' => e = .returned (.int .i64 r) ∧ Below w.heap.size w w' := by
 have hu27 := Try.underlying27
 have HB := Aside0.mk (Below.refl w.heap.size w)
 unfold impl_distance.f at h
 have H := h
 clear h
 replace H := zi H
 obtain ⟨t222, A4, H⟩ := H
 try dsimp only at H
 obtain rfl := Option.some.inj H
 go_enter Try.func110, Try.ntmps110
 try go_wp2_with (first | ((with_reducible refine zg 4 rfl ?_); refine z3 4 27 a1_0 a1_1 a1_2 ?_; intro gb220 hg w5 BK220 hb; have GW220 := sg hg; replace HB := bs hb; clear hb hg) | ((with_reducible refine zg 5 rfl ?_); refine z3 5 27 a2_0 a2_1 a2_2 ?_; intro gb221 hg w6 BK221 hb; have GW221 := sg hg; have NB220_221 := nl hg BK220; replace BK220 := bb BK220 hb; replace HB := bs hb; clear hb hg))
 replace BK220 := Aside0.mk (blk_drew BK220.out)
 replace BK221 := Aside0.mk (blk_drew BK221.out)
 replace HB := Aside0.mk (below_drew1 HB.out)
 refine sw 12 (fun w' => w'.cell? ⟨gb220, 0, none⟩ = some (.int .i64 a1_0) ∧ w'.cell? ⟨gb220, 1, none⟩ = some (.int .i64 a1_1) ∧ w'.cell? ⟨gb220, 2, none⟩ = some (.int .i64 a1_2) ∧ w'.cell? ⟨gb221, 0, none⟩ = some (.int .i64 a2_0) ∧ w'.cell? ⟨gb221, 1, none⟩ = some (.int .i64 a2_1) ∧ w'.cell? ⟨gb221, 2, none⟩ = some (.int .i64 a2_2)) impl_distance.tab1 impl_distance.bits1 (e3r BK220 (e3 BK221)) (fun hHeld HT_ HW_ => ?_)
 generalize w6.drew = w7 at BK220 BK221 HB hHeld ⊢
 refine pu 0 (some 7) (tA 12 1) HT_ ?_
 refine pu 2 (some 9) (tA 12 5) HT_ ?_
 refine pu 5 (some 12) (tA 12 37) HT_ ?_
 refine tk6 1 (some 8) (tA 12 39) HT_ HW_ hHeld ?_
 refine tk6 3 (some 10) (tA 12 47) HT_ HW_ hHeld ?_
 refine pu 4 (some 11) (tA 12 63) HT_ ?_
 refine tk6 6 (some 13) (tA 12 127) HT_ HW_ hHeld ?_
 refine tk6 7 (some 14) (tA 12 255) HT_ HW_ hHeld ?_
 refine o1 8 (some 15) (tA 12 511) HT_ (fun K hK => ?_)
 refine gs Try.func139 #[.int .i64 a0, .agg #[.int .i64 a1_0, .int .i64 a1_1, .int .i64 a1_2], .agg #[.int .i64 a2_0, .int .i64 a2_1, .int .i64 a2_2]] ?_
 with_reducible refine (impl_joinLevel.calls k a0 a1_0 a1_1 a1_2 a2_0 a2_1 a2_2 t222 _ A4.out).mono ?_
 rintro e w8 ⟨rfl, hb⟩
 refine ⟨_, rfl, ?_⟩
 replace BK220 := bb BK220 hb
 replace BK221 := bb BK221 hb
 replace HB := bs hb
 (try clear hb)
 (try clear hb2)
 (try clear hk)
 (try clear hi)
 refine hK.out _ _ (e3r BK220 (e3 BK221)) (fun hHeld => ?_)
 clear hK K
 refine nm (some 15) ?_
 refine pu 9 (some 16) (tA 12 1023) HT_ ?_
 refine pu 10 (some 17) (tA 12 2047) HT_ ?_
 refine pu 11 (some 6) (tA 12 4095) HT_ ?_
 refine done_ (done_of HT_.out (by kernel_rfl)) ?_
 try go_wp2
 go_ret
 exact ⟨er, bl⟩

/-! ### impl_mod: function 108 -/
def impl_mod.f (a0 : Int) (a1 : Int) : Option (Int) := if a1 = 0 then (none) else (some (Int.tmod (wrap64 ((Int.tmod a0 a1) + a1)) a1))
set_option maxHeartbeats 8000000 in
set_option maxRecDepth 100000 in
theorem impl_mod.calls (a0 : Int) (a1 : Int) (r : Int) (w : World) (h : impl_mod.f a0 a1 = some r) :
  Calls Try.prog 108 #[.int .i64 a0, .int .i64 a1] w fun e w' => e = .returned (.int .i64 r) ∧ Drawn0 w w' := by
 unfold impl_mod.f at h
 have H := h
 clear h
 replace H := ii H
 rcases H with ⟨c3, H⟩ | ⟨c3, H⟩
 ·exact absurd H (by simp)
 ·obtain ⟨c3b0, c3b1⟩ := zy c3
  obtain rfl := Option.some.inj H
  go_enter Try.func108, Try.ntmps108
  go_wp2
  go_ret
  exact zx

/-! ### impl_ofMark: function 94 -/
def impl_ofMark.f (k : Nat) (a0 : Int) (a1 : Int) (a2 : Int) : Option (Int × Int × Int × Bool) := (impl_isLevel.f a1).bind fun t224 => (if t224 = true then ((impl_power.f k a0 (wrap64 (a1 + 6))).bind fun t225 => ((impl_mod.f a2 t225).bind fun t226 => ((impl_valuation.f k a0 t226).bind fun t227 => ((impl_power.f k a0 (wrap64 (6 - (mx (wrap64 (6 - t227)) 0)))).bind fun t228 => (if t228 = 0 then (none) else (some (a1, wrap64 (Int.tdiv t226 t228), mx (wrap64 (6 - t227)) 0, true))))))) else (some (0, 0, 0, false)))
set_option maxHeartbeats 8000000 in
set_option maxRecDepth 100000 in
theorem impl_ofMark.calls (k : Nat) (a0 : Int) (a1 : Int) (a2 : Int) (r1 : Int) (r2 : Int) (r3 : Int) (r4 : Bool) (w : World) (h : impl_ofMark.f k a0 a1 a2 = some (r1, r2, r3, r4)) :
  Calls Try.prog 94 #[.int .i64 a0, .int .i64 a1, .int .i64 a2] w fun e w' => e = .returned (.tuple #[.agg #[.int .i64 r1, .int .i64 r2, .int .i64 r3], .bool r4]) ∧ Below w.heap.size w w' := by
 have hu27 := Try.underlying27
 have HB := Aside0.mk (Below.refl w.heap.size w)
 unfold impl_ofMark.f at h
 have H := h
 clear h
 replace H := zi H
 obtain ⟨t224, A4, H⟩ := H
 try dsimp only at H
 by_cases c5 : t224 = true
 ·subst c5
  rw [if_pos rfl] at H
  replace H := zi H
  obtain ⟨t225, A6, H⟩ := H
  try dsimp only at H
  replace H := zi H
  obtain ⟨t226, A7, H⟩ := H
  try dsimp only at H
  replace H := zi H
  obtain ⟨t227, A8, H⟩ := H
  try dsimp only at H
  obtain ⟨ji9, hji9⟩ : ∃ j_ : Int, (mx (wrap64 (6 - t227)) 0) = j_ := ⟨_, rfl⟩
  replace H : ((impl_power.f k a0 (wrap64 (6 - (ji9)))).bind fun t228 => (if t228 = 0 then (none) else (some (a1, wrap64 (Int.tdiv t226 t228), ji9, true)))) = some (r1, r2, r3, r4) := by first | (rw [hji9] at H; exact H) | (simp only [hji9] at H ⊢; exact H)
  (try rw [hji9] at A4)
  (try rw [hji9] at A6)
  (try rw [hji9] at A7)
  (try rw [hji9] at A8)
  (try (have hji9l : 0 ≤ ji9 := by (rw [← hji9]; unfold mx; (repeat' split) <;> omega)))
  (try (have hji9m : 0 ≤ ji9 := by omega))
  have hji9_ : (if (wrap64 (6 - t227)) < 0 then 0 else (wrap64 (6 - t227))) = ji9 := hji9
  replace H := zi H
  obtain ⟨t228, A10, H⟩ := H
  try dsimp only at H
  replace H := ii H
  rcases H with ⟨c11, H⟩ | ⟨c11, H⟩
  ·exact absurd H (by simp)
  ·obtain ⟨c11b0, c11b1⟩ := zy c11
   simp only [Option.some.injEq, Prod.mk.injEq] at H
   obtain ⟨rfl, rfl, rfl, rfl⟩ := H
   go_enter Try.func94, Try.ntmps94
   go_wp2_with (first | ((with_reducible refine zg 6 rfl ?_); refine z3 6 27 0 0 0 ?_; intro gb223 hg w12 BK223 hb; have GW223 := sg hg; replace HB := bs hb; clear hb hg) | ((with_reducible refine zf 102 rfl ?_); refine g1 (some 10) Try.func102 #[.int .i64 a1] ?_; (with_reducible refine (impl_isLevel.calls a1 true _ A4.out).mono ?_); rintro e w' ⟨rfl, ⟨nd, rfl⟩⟩; refine ⟨_, rfl, ?_⟩; (try (rw [drewN_self w12]; generalize hq_ : World.drewN w12 _ = w12; have n0_ : Aside0 (w12.heap[gb223]? = some (.cells #[.int .i64 0, .int .i64 0, .int .i64 0] 27 (0, 0))) := ⟨by rw [← hq_]; exact (be BK223)⟩; have n1_ : Aside0 (Below w.heap.size w w12) := ⟨by rw [← hq_]; exact (bl)⟩; clear BK223 HB hq_; have BK223 := n0_; have HB := n1_; clear n0_ n1_))) | ((with_reducible refine zf 103 rfl ?_); refine g1 (some 17) Try.func103 #[.int .i64 a0, .int .i64 (wrap64 (a1 + 6))] ?_; (with_reducible refine (impl_power.calls k a0 (wrap64 (a1 + 6)) t225 _ A6.out).mono ?_); rintro e w' ⟨rfl, ⟨nd, rfl⟩⟩; refine ⟨_, rfl, ?_⟩; (try (rw [drewN_self w12]; generalize hq_ : World.drewN w12 _ = w12; have n0_ : Aside0 (w12.heap[gb223]? = some (.cells #[.int .i64 0, .int .i64 0, .int .i64 0] 27 (0, 0))) := ⟨by rw [← hq_]; exact (be BK223)⟩; have n1_ : Aside0 (Below w.heap.size w w12) := ⟨by rw [← hq_]; exact (bl)⟩; clear BK223 HB hq_; have BK223 := n0_; have HB := n1_; clear n0_ n1_))) | ((with_reducible refine zf 108 rfl ?_); refine g1 (some 18) Try.func108 #[.int .i64 a2, .int .i64 t225] ?_; (with_reducible refine (impl_mod.calls a2 t225 t226 _ A7.out).mono ?_); rintro e w' ⟨rfl, ⟨nd, rfl⟩⟩; refine ⟨_, rfl, ?_⟩; (try (rw [drewN_self w12]; generalize hq_ : World.drewN w12 _ = w12; have n0_ : Aside0 (w12.heap[gb223]? = some (.cells #[.int .i64 0, .int .i64 0, .int .i64 0] 27 (0, 0))) := ⟨by rw [← hq_]; exact (be BK223)⟩; have n1_ : Aside0 (Below w.heap.size w w12) := ⟨by rw [← hq_]; exact (bl)⟩; clear BK223 HB hq_; have BK223 := n0_; have HB := n1_; clear n0_ n1_))) | ((with_reducible refine zf 137 rfl ?_); refine g1 (some 21) Try.func137 #[.int .i64 a0, .int .i64 t226] ?_; (with_reducible refine (impl_valuation.calls k a0 t226 t227 _ A8.out).mono ?_); rintro e w' ⟨rfl, ⟨nd, rfl⟩⟩; refine ⟨_, rfl, ?_⟩; (try (rw [drewN_self w12]; generalize hq_ : World.drewN w12 _ = w12; have n0_ : Aside0 (w12.heap[gb223]? = some (.cells #[.int .i64 0, .int .i64 0, .int .i64 0] 27 (0, 0))) := ⟨by rw [← hq_]; exact (be BK223)⟩; have n1_ : Aside0 (Below w.heap.size w w12) := ⟨by rw [← hq_]; exact (bl)⟩; clear BK223 HB hq_; have BK223 := n0_; have HB := n1_; clear n0_ n1_))) | ((with_reducible refine zf 103 rfl ?_); refine goesL_ (some 29) rfl rfl Try.func103 (by kernel_rfl) rfl #[.int .i64 a0, .int .i64 (wrap64 (6 - (ji9)))] rfl (by (try simp only [List.map_toArray, List.map_cons, List.map_nil]); first | done | (simp only [hji9]; rfl) | rfl | (simp only [List.length_drop, List.length_take]; rfl)) ?_; (with_reducible refine (impl_power.calls k a0 (wrap64 (6 - (ji9))) t228 _ A10.out).mono ?_); rintro e w' ⟨rfl, ⟨nd, rfl⟩⟩; refine ⟨_, rfl, ?_⟩; (try (rw [drewN_self w12]; generalize hq_ : World.drewN w12 _ = w12; have n0_ : Aside0 (w12.heap[gb223]? = some (.cells #[.int .i64 0, .int .i64 0, .int .i64 0] 27 (0, 0))) := ⟨by rw [← hq_]; exact (be BK223)⟩; have n1_ : Aside0 (Below w.heap.size w w12) := ⟨by rw [← hq_]; exact (bl)⟩; clear BK223 HB hq_; have BK223 := n0_; have HB := n1_; clear n0_ n1_)); obtain ⟨hcz13_0, hcz13_1, hcz13_2, hfz13_0, hfz13_1, hfz13_2⟩ := cq3 BK223))
   refine bodyPost_ret (results_ct rfl _ _ gb223 27 #[.int .i64 a1, .int .i64 (wrap64 (Int.tdiv t226 t228)), .int .i64 ji9] (0, 0) _ rfl (bp) Try.underlying27 rfl (by kernel_rfl)) rfl ?_
   exact ⟨by first | rfl | (simp [errW_none, errW_some] <;> rfl) | (simp only [← hji9]; first | rfl | (simp [errW_none, errW_some] <;> rfl)) | (simp [*, errW_none, errW_some] <;> rfl), bl⟩
 ·replace c5 := Bool.eq_false_iff.mpr c5
  subst c5
  have H1 : (some (0, 0, 0, false)) = some (r1, r2, r3, r4) := by rw [if_neg (show ¬ (false = true) by decide)] at H; exact H
  clear H
  have H := H1
  clear H1
  simp only [Option.some.injEq, Prod.mk.injEq] at H
  obtain ⟨rfl, rfl, rfl, rfl⟩ := H
  go_enter Try.func94, Try.ntmps94
  go_wp2_with (first | ((with_reducible refine zg 6 rfl ?_); refine z3 6 27 0 0 0 ?_; intro gb223 hg w14 BK223 hb; have GW223 := sg hg; replace HB := bs hb; clear hb hg) | ((with_reducible refine zf 102 rfl ?_); refine g1 (some 10) Try.func102 #[.int .i64 a1] ?_; (with_reducible refine (impl_isLevel.calls a1 false _ A4.out).mono ?_); rintro e w' ⟨rfl, ⟨nd, rfl⟩⟩; refine ⟨_, rfl, ?_⟩; (try (rw [drewN_self w14]; generalize hq_ : World.drewN w14 _ = w14; have n0_ : Aside0 (w14.heap[gb223]? = some (.cells #[.int .i64 0, .int .i64 0, .int .i64 0] 27 (0, 0))) := ⟨by rw [← hq_]; exact (be BK223)⟩; have n1_ : Aside0 (Below w.heap.size w w14) := ⟨by rw [← hq_]; exact (bl)⟩; clear BK223 HB hq_; have BK223 := n0_; have HB := n1_; clear n0_ n1_)); obtain ⟨hcz15_0, hcz15_1, hcz15_2, hfz15_0, hfz15_1, hfz15_2⟩ := cq3 BK223))
  refine bodyPost_ret (results_ct rfl _ _ gb223 27 #[.int .i64 0, .int .i64 0, .int .i64 0] (0, 0) _ rfl (bp) Try.underlying27 rfl (by kernel_rfl)) rfl ?_
  exact ⟨er, bl⟩

/-! ### impl_parent: function 105 -/
def impl_parent.f (k : Nat) (a0 : Int) (a1_0 : Int) (a1_1 : Int) (a1_2 : Int) : Option (Int × Int × Int × Bool) := (impl_mark.f k a0 a1_0 a1_1 a1_2).bind fun t231 => ((impl_ofMark.f k a0 (wrap64 (a1_0 - 1)) t231).bind fun bt232 => (some (bt232.1, bt232.2.1, bt232.2.2.1, bt232.2.2.2)))
def impl_parent.T1 : Bool × List (List Nat × List Nat) := (true, [([], []), ([], []), ([1], [1]), ([2], [2]), ([], []), ([], []), ([4, 5], [4, 5]), ([0, 3, 6, 6], [0, 3, 6]), ([7], [7]), ([7], [7]), ([8, 7, 0, 1, 2, 3, 4, 5, 6, 7, 8, 9], [8]), ([9, 10, 0, 1, 2, 3, 4, 5, 6, 7, 8, 9, 10], [9])])
def impl_parent.B1 : List Nat := [0, 0, 2, 6, 0, 0, 48, 127, 255, 255, 1023, 2047]
theorem impl_parent.tab1 : rtab .any (opsOf Try.f105 1) = impl_parent.T1 := by kernel_rfl
theorem impl_parent.bits1 : waitsOk impl_parent.T1.2 impl_parent.B1 = true := by kernel_rfl
set_option maxHeartbeats 8000000 in
set_option maxRecDepth 100000 in
theorem impl_parent.calls (k : Nat) (a0 : Int) (a1_0 : Int) (a1_1 : Int) (a1_2 : Int) (r1 : Int) (r2 : Int) (r3 : Int) (r4 : Bool) (w : World) (h : impl_parent.f k a0 a1_0 a1_1 a1_2 = some (r1, r2, r3, r4)) :
  Calls Try.prog 105 #[.int .i64 a0, .agg #[.int .i64 a1_0, .int .i64 a1_1, .int .i64 a1_2]] w fun e w' => e = .returned (.tuple #[.agg #[.int .i64 r1, .int .i64 r2, .int .i64 r3], .bool r4]) ∧ Below w.heap.size w w' := by
 have hu27 := Try.underlying27
 have HB := Aside0.mk (Below.refl w.heap.size w)
 unfold impl_parent.f at h
 have H := h
 clear h
 replace H := zi H
 obtain ⟨t231, A3, H⟩ := H
 try dsimp only at H
 replace H := zi H
 obtain ⟨⟨t232, t233, t234, t235⟩, A4, H⟩ := H
 try dsimp only at H
 simp only [Option.some.injEq, Prod.mk.injEq] at H
 obtain ⟨rfl, rfl, rfl, rfl⟩ := H
 go_enter Try.func105, Try.ntmps105
 try go_wp2_with (first | ((with_reducible refine zg 3 rfl ?_); refine z3 3 27 a1_0 a1_1 a1_2 ?_; intro gb229 hg w5 BK229 hb; have GW229 := sg hg; replace HB := bs hb; clear hb hg) | ((with_reducible refine zg 4 rfl ?_); refine z3 4 27 0 0 0 ?_; intro gb230 hg w6 BK230 hb; have GW230 := sg hg; have NB229_230 := nl hg BK229; replace BK229 := bb BK229 hb; replace HB := bs hb; clear hb hg))
 replace BK229 := Aside0.mk (blk_drew BK229.out)
 replace BK230 := Aside0.mk (blk_drew BK230.out)
 replace HB := Aside0.mk (below_drew1 HB.out)
 refine sw 12 (fun w' => w'.cell? ⟨gb229, 0, none⟩ = some (.int .i64 a1_0) ∧ w'.cell? ⟨gb229, 1, none⟩ = some (.int .i64 a1_1) ∧ w'.cell? ⟨gb229, 2, none⟩ = some (.int .i64 a1_2)) impl_parent.tab1 impl_parent.bits1 (e3 BK229) (fun hHeld HT_ HW_ => ?_)
 generalize w6.drew = w7 at BK229 BK230 HB hHeld ⊢
 refine pu 0 (some 6) (tA 12 1) HT_ ?_
 refine pu 1 (some 7) (tA 12 3) HT_ ?_
 refine pu 4 (some 10) (tA 12 19) HT_ ?_
 refine tk3 2 (some 8) (tA 12 23) HT_ HW_ hHeld ?_
 refine pu 3 (some 9) (tA 12 31) HT_ ?_
 refine tk3 5 (some 11) (tA 12 63) HT_ HW_ hHeld ?_
 refine o1 6 (some 12) (tA 12 127) HT_ (fun K hK => ?_)
 refine gs Try.func95 #[.int .i64 a0, .agg #[.int .i64 a1_0, .int .i64 a1_1, .int .i64 a1_2]] ?_
 with_reducible refine (impl_mark.calls k a0 a1_0 a1_1 a1_2 t231 _ A3.out).mono ?_
 rintro e w8 ⟨rfl, hb⟩
 refine ⟨_, rfl, ?_⟩
 replace BK229 := bb BK229 hb
 replace BK230 := bb BK230 hb
 replace HB := bs hb
 (try clear hb)
 (try clear hb2)
 (try clear hk)
 (try clear hi)
 refine hK.out _ _ (e3 BK229) (fun hHeld => ?_)
 clear hK K
 refine nm (some 12) ?_
 refine o1 7 (some 13) (tA 12 255) HT_ (fun K hK => ?_)
 refine gs Try.func94 #[.int .i64 a0, .int .i64 (wrap64 (a1_0 - 1)), .int .i64 t231] ?_
 with_reducible refine (impl_ofMark.calls k a0 (wrap64 (a1_0 - 1)) t231 t232 t233 t234 t235 _ A4.out).mono ?_
 rintro e w9 ⟨rfl, hb⟩
 refine ⟨_, rfl, ?_⟩
 replace BK229 := bb BK229 hb
 replace BK230 := bb BK230 hb
 replace HB := bs hb
 (try clear hb)
 (try clear hb2)
 (try clear hk)
 (try clear hi)
 refine hK.out _ _ (e3 BK229) (fun hHeld => ?_)
 clear hK K
 refine nm (some 13) ?_
 refine pu 8 (some 14) (tA 12 511) HT_ ?_
 refine pu 9 (some 15) (tA 12 1023) HT_ ?_
 refine o1 10 none (tA 12 2047) HT_ (fun K hK => ?_)
 have hs10 : w9.cell? ⟨gb230, 0, none⟩ = some (.int .i64 0) := (blk_cell BK230.out 0).trans rfl
 have hfs10 := blk_frozen BK230.out 0
 obtain ⟨hns10_0, hms10_0⟩ := zn NB229_230
 have hs11 : w9.cell? ⟨gb230, 1, none⟩ = some (.int .i64 0) := (blk_cell BK230.out 1).trans rfl
 have hfs11 := blk_frozen BK230.out 1
 obtain ⟨hns11_0, hms11_0⟩ := zn NB229_230
 have hs12 : w9.cell? ⟨gb230, 2, none⟩ = some (.int .i64 0) := (blk_cell BK230.out 2).trans rfl
 have hfs12 := blk_frozen BK230.out 2
 obtain ⟨hns12_0, hms12_0⟩ := zn NB229_230
 refine skip_ (w1 := ?_) (by rfl) rfl ?_ ?_
 rotate_left
 ·go_simp
  rfl
 refine hK.out _ _ (m3 hHeld (fun e => cf gb230 NB229_230 (cf gb230 NB229_230 (cf gb230 NB229_230 e)))) (fun hHeld => ?_)
 clear hK K
 refine pu 11 (some 5) (tA 12 4095) HT_ ?_
 refine done_ (done_of HT_.out (by kernel_rfl)) ?_
 try go_wp2
 refine bodyPost_ret (results_ct rfl _ _ gb230 27 #[.int .i64 t232, .int .i64 t233, .int .i64 t234] (0, 0) _ rfl (bp) Try.underlying27 rfl (by kernel_rfl)) rfl ?_
 exact ⟨er, bl⟩

/-! ### impl_child: function 156 -/
def impl_child.f (k : Nat) (a0 : Int) (a1_0 : Int) (a1_1 : Int) (a1_2 : Int) (a2 : Int) : Option (Int × Int × Int × Bool) := (impl_mark.f k a0 a1_0 a1_1 a1_2).bind fun t238 => ((impl_power.f k a0 (wrap64 (a1_0 + 6))).bind fun t239 => ((impl_ofMark.f k a0 (wrap64 (a1_0 + 1)) (wrap64 (t238 + (wrap64 (a2 * t239))))).bind fun bt240 => (some (bt240.1, bt240.2.1, bt240.2.2.1, bt240.2.2.2))))
def impl_child.T1 : Bool × List (List Nat × List Nat) := (true, [([], []), ([], []), ([1], [1]), ([2], [2]), ([], []), ([], []), ([4, 5], [4, 5]), ([], []), ([], []), ([], []), ([9], [9]), ([10], [10]), ([8, 11, 6], [8, 11]), ([7, 12], [7, 12]), ([6, 13], [6, 13]), ([0, 3, 14, 12], [0, 3, 14]), ([15], [15]), ([15], [15]), ([16, 15, 0, 1, 2, 3, 4, 5, 6, 7, 8, 9, 10, 11, 12, 13, 14, 15, 16, 17], [16]), ([17, 18, 0, 1, 2, 3, 4, 5, 6, 7, 8, 9, 10, 11, 12, 13, 14, 15, 16, 17, 18], [17])])
def impl_child.B1 : List Nat := [0, 0, 2, 6, 0, 0, 48, 0, 0, 0, 512, 1536, 3952, 8176, 16368, 32767, 65535, 65535, 262143, 524287]
theorem impl_child.tab1 : rtab .any (opsOf Try.f156 1) = impl_child.T1 := by kernel_rfl
theorem impl_child.bits1 : waitsOk impl_child.T1.2 impl_child.B1 = true := by kernel_rfl
set_option maxHeartbeats 8000000 in
set_option maxRecDepth 100000 in
theorem impl_child.calls (k : Nat) (a0 : Int) (a1_0 : Int) (a1_1 : Int) (a1_2 : Int) (a2 : Int) (r1 : Int) (r2 : Int) (r3 : Int) (r4 : Bool) (w : World) (h : impl_child.f k a0 a1_0 a1_1 a1_2 a2 = some (r1, r2, r3, r4)) :
  Calls Try.prog 156 #[.int .i64 a0, .agg #[.int .i64 a1_0, .int .i64 a1_1, .int .i64 a1_2], .int .i64 a2] w fun e w' => e = .returned (.tuple #[.agg #[.int .i64 r1, .int .i64 r2, .int .i64 r3], .bool r4]) ∧ Below w.heap.size w w' := by
 have hu27 := Try.underlying27
 have HB := Aside0.mk (Below.refl w.heap.size w)
 unfold impl_child.f at h
 have H := h
 clear h
 replace H := zi H
 obtain ⟨t238, A4, H⟩ := H
 try dsimp only at H
 replace H := zi H
 obtain ⟨t239, A5, H⟩ := H
 try dsimp only at H
 replace H := zi H
 obtain ⟨⟨t240, t241, t242, t243⟩, A6, H⟩ := H
 try dsimp only at H
 simp only [Option.some.injEq, Prod.mk.injEq] at H
 obtain ⟨rfl, rfl, rfl, rfl⟩ := H
 go_enter Try.func156, Try.ntmps156
 try go_wp2_with (first | ((with_reducible refine zg 4 rfl ?_); refine z3 4 27 a1_0 a1_1 a1_2 ?_; intro gb236 hg w7 BK236 hb; have GW236 := sg hg; replace HB := bs hb; clear hb hg) | ((with_reducible refine zg 6 rfl ?_); refine z3 6 27 0 0 0 ?_; intro gb237 hg w8 BK237 hb; have GW237 := sg hg; have NB236_237 := nl hg BK236; replace BK236 := bb BK236 hb; replace HB := bs hb; clear hb hg))
 replace BK236 := Aside0.mk (blk_drew BK236.out)
 replace BK237 := Aside0.mk (blk_drew BK237.out)
 replace HB := Aside0.mk (below_drew1 HB.out)
 refine sw 20 (fun w' => w'.cell? ⟨gb236, 0, none⟩ = some (.int .i64 a1_0) ∧ w'.cell? ⟨gb236, 1, none⟩ = some (.int .i64 a1_1) ∧ w'.cell? ⟨gb236, 2, none⟩ = some (.int .i64 a1_2)) impl_child.tab1 impl_child.bits1 (e3 BK236) (fun hHeld HT_ HW_ => ?_)
 generalize w8.drew = w9 at BK236 BK237 HB hHeld ⊢
 refine pu 0 (some 8) (tA 20 1) HT_ ?_
 refine pu 1 (some 9) (tA 20 3) HT_ ?_
 refine pu 4 (some 12) (tA 20 19) HT_ ?_
 refine pu 7 (some 15) (tA 20 147) HT_ ?_
 refine pu 8 (some 16) (tA 20 403) HT_ ?_
 refine pu 9 (some 17) (tA 20 915) HT_ ?_
 refine tk3 2 (some 10) (tA 20 919) HT_ HW_ hHeld ?_
 refine pu 3 (some 11) (tA 20 927) HT_ ?_
 refine tk3 5 (some 13) (tA 20 959) HT_ HW_ hHeld ?_
 refine tk3 10 (some 18) (tA 20 1983) HT_ HW_ hHeld ?_
 refine pu 11 (some 19) (tA 20 4031) HT_ ?_
 refine o1 6 (some 14) (tA 20 4095) HT_ (fun K hK => ?_)
 refine gs Try.func95 #[.int .i64 a0, .agg #[.int .i64 a1_0, .int .i64 a1_1, .int .i64 a1_2]] ?_
 with_reducible refine (impl_mark.calls k a0 a1_0 a1_1 a1_2 t238 _ A4.out).mono ?_
 rintro e w10 ⟨rfl, hb⟩
 refine ⟨_, rfl, ?_⟩
 replace BK236 := bb BK236 hb
 replace BK237 := bb BK237 hb
 replace HB := bs hb
 (try clear hb)
 (try clear hb2)
 (try clear hk)
 (try clear hi)
 refine hK.out _ _ (e3 BK236) (fun hHeld => ?_)
 clear hK K
 refine nm (some 14) ?_
 refine o1 12 (some 20) (tA 20 8191) HT_ (fun K hK => ?_)
 refine gs Try.func103 #[.int .i64 a0, .int .i64 (wrap64 (a1_0 + 6))] ?_
 with_reducible refine (impl_power.calls k a0 (wrap64 (a1_0 + 6)) t239 _ A5.out).mono ?_
 rintro e w' ⟨rfl, ⟨nd, rfl⟩⟩
 refine ⟨_, rfl, ?_⟩
 refine hK.out _ _ (e3 BK236) (fun hHeld => ?_)
 clear hK K
 refine nm (some 20) ?_
 refine pu 13 (some 21) (tA 20 16383) HT_ ?_
 refine pu 14 (some 22) (tA 20 32767) HT_ ?_
 refine o1 15 (some 23) (tA 20 65535) HT_ (fun K hK => ?_)
 refine gs Try.func94 #[.int .i64 a0, .int .i64 (wrap64 (a1_0 + 1)), .int .i64 (wrap64 (t238 + (wrap64 (a2 * t239))))] ?_
 with_reducible refine (impl_ofMark.calls k a0 (wrap64 (a1_0 + 1)) (wrap64 (t238 + (wrap64 (a2 * t239)))) t240 t241 t242 t243 _ A6.out).mono ?_
 rintro e w11 ⟨rfl, hb⟩
 refine ⟨_, rfl, ?_⟩
 replace BK236 := bb BK236 hb
 replace BK237 := bb BK237 hb
 replace HB := bs hb
 (try clear hb)
 (try clear hb2)
 (try clear hk)
 (try clear hi)
 refine hK.out _ _ (e3 BK236) (fun hHeld => ?_)
 clear hK K
 refine nm (some 23) ?_
 refine pu 16 (some 24) (tA 20 131071) HT_ ?_
 refine pu 17 (some 25) (tA 20 262143) HT_ ?_
 refine o1 18 none (tA 20 524287) HT_ (fun K hK => ?_)
 have hs12 : w11.cell? ⟨gb237, 0, none⟩ = some (.int .i64 0) := (blk_cell BK237.out 0).trans rfl
 have hfs12 := blk_frozen BK237.out 0
 obtain ⟨hns12_0, hms12_0⟩ := zn NB236_237
 have hs13 : w11.cell? ⟨gb237, 1, none⟩ = some (.int .i64 0) := (blk_cell BK237.out 1).trans rfl
 have hfs13 := blk_frozen BK237.out 1
 obtain ⟨hns13_0, hms13_0⟩ := zn NB236_237
 have hs14 : w11.cell? ⟨gb237, 2, none⟩ = some (.int .i64 0) := (blk_cell BK237.out 2).trans rfl
 have hfs14 := blk_frozen BK237.out 2
 obtain ⟨hns14_0, hms14_0⟩ := zn NB236_237
 refine skip_ (w1 := ?_) (by rfl) rfl ?_ ?_
 rotate_left
 ·go_simp
  rfl
 refine hK.out _ _ (m3 hHeld (fun e => cf gb237 NB236_237 (cf gb237 NB236_237 (cf gb237 NB236_237 e)))) (fun hHeld => ?_)
 clear hK K
 refine pu 19 (some 7) (tA 20 1048575) HT_ ?_
 refine done_ (done_of HT_.out (by kernel_rfl)) ?_
 try go_wp2
 refine bodyPost_ret (results_ct rfl _ _ gb237 27 #[.int .i64 t240, .int .i64 t241, .int .i64 t242] (0, 0) _ rfl (bp) Try.underlying27 rfl (by kernel_rfl)) rfl ?_
 exact ⟨er, bl⟩

/-! ### impl_neighbour: function 153 -/
def impl_neighbour.f (k : Nat) (a0 : Int) (a1_0 : Int) (a1_1 : Int) (a1_2 : Int) (a2 : Int) : Option (Int × Int × Int × Bool) := if a2 = 0 then ((impl_parent.f k a0 a1_0 a1_1 a1_2).bind fun bt246 => (some (bt246.1, bt246.2.1, bt246.2.2.1, bt246.2.2.2))) else ((impl_child.f k a0 a1_0 a1_1 a1_2 (wrap64 (a2 - 1))).bind fun bt250 => (some (bt250.1, bt250.2.1, bt250.2.2.1, bt250.2.2.2)))
set_option maxHeartbeats 8000000 in
set_option maxRecDepth 100000 in
theorem impl_neighbour.calls (k : Nat) (a0 : Int) (a1_0 : Int) (a1_1 : Int) (a1_2 : Int) (a2 : Int) (r1 : Int) (r2 : Int) (r3 : Int) (r4 : Bool) (w : World) (h : impl_neighbour.f k a0 a1_0 a1_1 a1_2 a2 = some (r1, r2, r3, r4)) :
  Calls Try.prog 153 #[.int .i64 a0, .agg #[.int .i64 a1_0, .int .i64 a1_1, .int .i64 a1_2], .int .i64 a2] w fun e w' => e = .returned (.tuple #[.agg #[.int .i64 r1, .int .i64 r2, .int .i64 r3], .bool r4]) ∧ Below w.heap.size w w' := by
 have hu27 := Try.underlying27
 have HB := Aside0.mk (Below.refl w.heap.size w)
 unfold impl_neighbour.f at h
 have H := h
 clear h
 replace H := ii H
 rcases H with ⟨c4, H⟩ | ⟨c4, H⟩
 ·obtain ⟨c4b0, c4b1⟩ := zz c4
  clear c4
  replace H := zi H
  obtain ⟨⟨t246, t247, t248, t249⟩, A5, H⟩ := H
  try dsimp only at H
  simp only [Option.some.injEq, Prod.mk.injEq] at H
  obtain ⟨rfl, rfl, rfl, rfl⟩ := H
  go_enter Try.func153, Try.ntmps153
  go_wp2_with (first | ((with_reducible refine zg 4 rfl ?_); refine z3 4 27 a1_0 a1_1 a1_2 ?_; intro gb244 hg w6 BK244 hb; have GW244 := sg hg; replace HB := bs hb; clear hb hg) | ((with_reducible refine zg 6 rfl ?_); refine z3 6 27 0 0 0 ?_; intro gb245 hg w7 BK245 hb; have GW245 := sg hg; have NB244_245 := nl hg BK244; replace BK244 := bb BK244 hb; replace HB := bs hb; clear hb hg; obtain ⟨hnb8, hnc8⟩ := zn NB244_245; obtain ⟨hcz9_0, hcz9_1, hcz9_2, hfz9_0, hfz9_1, hfz9_2⟩ := cq3 BK244) | ((with_reducible refine zf 105 rfl ?_); refine g1 (some 12) Try.func105 #[.int .i64 a0, .agg #[.int .i64 a1_0, .int .i64 a1_1, .int .i64 a1_2]] ?_; (with_reducible refine (impl_parent.calls k a0 a1_0 a1_1 a1_2 t246 t247 t248 t249 _ A5.out).mono ?_); rintro e w10 ⟨rfl, hb⟩; refine ⟨_, rfl, ?_⟩; replace BK244 := bb BK244 hb; replace BK245 := bb BK245 hb; replace HB := bs hb; (try clear hb); obtain ⟨hcz11_0, hcz11_1, hcz11_2, hfz11_0, hfz11_1, hfz11_2⟩ := cq3 BK245))
  refine bodyPost_ret (results_ct rfl _ _ gb245 27 #[.int .i64 t246, .int .i64 t247, .int .i64 t248] (0, 0) _ rfl (bp) Try.underlying27 rfl (by kernel_rfl)) rfl ?_
  exact ⟨er, bl⟩
 ·obtain ⟨c4b0, c4b1⟩ := zy c4
  replace H := zi H
  obtain ⟨⟨t250, t251, t252, t253⟩, A12, H⟩ := H
  try dsimp only at H
  simp only [Option.some.injEq, Prod.mk.injEq] at H
  obtain ⟨rfl, rfl, rfl, rfl⟩ := H
  go_enter Try.func153, Try.ntmps153
  go_wp2_with (first | ((with_reducible refine zg 4 rfl ?_); refine z3 4 27 a1_0 a1_1 a1_2 ?_; intro gb244 hg w13 BK244 hb; have GW244 := sg hg; replace HB := bs hb; clear hb hg) | ((with_reducible refine zg 6 rfl ?_); refine z3 6 27 0 0 0 ?_; intro gb245 hg w14 BK245 hb; have GW245 := sg hg; have NB244_245 := nl hg BK244; replace BK244 := bb BK244 hb; replace HB := bs hb; clear hb hg; obtain ⟨hnb15, hnc15⟩ := zn NB244_245; obtain ⟨hcz16_0, hcz16_1, hcz16_2, hfz16_0, hfz16_1, hfz16_2⟩ := cq3 BK244) | ((with_reducible refine zf 156 rfl ?_); refine g1 (some 19) Try.func156 #[.int .i64 a0, .agg #[.int .i64 a1_0, .int .i64 a1_1, .int .i64 a1_2], .int .i64 (wrap64 (a2 - 1))] ?_; (with_reducible refine (impl_child.calls k a0 a1_0 a1_1 a1_2 (wrap64 (a2 - 1)) t250 t251 t252 t253 _ A12.out).mono ?_); rintro e w17 ⟨rfl, hb⟩; refine ⟨_, rfl, ?_⟩; replace BK244 := bb BK244 hb; replace BK245 := bb BK245 hb; replace HB := bs hb; (try clear hb); obtain ⟨hcz18_0, hcz18_1, hcz18_2, hfz18_0, hfz18_1, hfz18_2⟩ := cq3 BK245))
  refine bodyPost_ret (results_ct rfl _ _ gb245 27 #[.int .i64 t250, .int .i64 t251, .int .i64 t252] (0, 0) _ rfl (bp) Try.underlying27 rfl (by kernel_rfl)) rfl ?_
  exact ⟨er, bl⟩

end Go.Proofs.Ytpmepopagapeiaa.PFnMedians

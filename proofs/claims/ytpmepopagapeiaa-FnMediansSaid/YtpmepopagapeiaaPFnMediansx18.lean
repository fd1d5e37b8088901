-- Printed by the kit's print and repaired by a program of this session.
import Derived.Test.YtpmepopagapeiaaPFnMediansx0
import Derived.Test.YtpmepopagapeiaaPFnMediansx6
namespace Go.Proofs.Ytpmepopagapeiaa.PFnMedians
open Go.RowKit Go.Proofs.YtpmepopagapeiaaW.PrintWords Go.Proofs.YtpmepopagapeiaaW.PrintLast Go.Proofs.YtpmepopagapeiaaW.PrintMore
attribute [local go_sem] max2_int min2_int max_two min_two max_three min_three max_four min_four
set_option linter.unusedVariables false
set_option linter.unusedSimpArgs false

/-! ### impl_nearness: function 130 -/
def impl_nearness.f (k : Nat) (a0 : Int) (a1_0 : Int) (a1_1 : Int) (a1_2 : Int) (a2 : Int) (a3 : Int) : Option (Int) := (impl_power.f k a0 6).bind fun t692 => ((impl_mark.f k a0 a1_0 a1_1 a1_2).bind fun t693 => (if (wrap64 ((wrap64 (a2 * t692)) - (wrap64 (t693 * a3)))) = 0 then (some 1000) else ((impl_valuation.f k a0 (wrap64 ((wrap64 (a2 * t692)) - (wrap64 (t693 * a3))))).bind fun t694 => ((impl_valuation.f k a0 a3).bind fun t695 => (some (wrap64 ((wrap64 (t694 - t695)) - 6)))))))
def impl_nearness.T1 : Bool × List (List Nat × List Nat) := (true, [([], []), ([], []), ([1], [1]), ([0, 2], [0, 2]), ([], []), ([], []), ([4, 5, 2], [4, 5]), ([], []), ([6, 7], [6, 7]), ([3, 8], [3, 8]), ([9, 6, 0, 1, 2, 3, 4, 5, 6, 7, 8, 9], [9])])
def impl_nearness.B1 : List Nat := [0, 0, 2, 7, 0, 0, 54, 0, 246, 511, 1023]
theorem impl_nearness.tab1 : rtab .any (opsOf Try.f130 1) = impl_nearness.T1 := by kernel_rfl
theorem impl_nearness.bits1 : waitsOk impl_nearness.T1.2 impl_nearness.B1 = true := by kernel_rfl
set_option maxHeartbeats 8000000 in
set_option maxRecDepth 100000 in
theorem impl_nearness.calls (k : Nat) (a0 : Int) (a1_0 : Int) (a1_1 : Int) (a1_2 : Int) (a2 : Int) (a3 : Int) (r : Int) (w : World) (h : impl_nearness.f k a0 a1_0 a1_1 a1_2 a2 a3 = some r) :
  Calls Try.prog 130 #[.int .i64 a0, .agg #[.int .i64 a1_0, .int .i64 a1_1, .int .i64 a1_2], .int .i64 a2, .int .i64 a3] w fun e w' => e = .returned (.int .i64 r) ∧ Below w.heap.size w w' := by
 have hu27 := Try.underlying27
 have HB := Aside0.mk (Below.refl w.heap.size w)
 unfold impl_nearness.f at h
 have H := h
 clear h
 replace H := zi H
 obtain ⟨t692, A5, H⟩ := H
 try dsimp only at H
 replace H := zi H
 obtain ⟨t693, A6, H⟩ := H
 try dsimp only at H
 replace H := ii H
 rcases H with ⟨c7, H⟩ | ⟨c7, H⟩
 ·obtain ⟨c7b0, c7b1⟩ := zz c7
  clear c7
  obtain rfl := Option.some.inj H
  go_enter Try.func130, Try.ntmps130
  try go_wp2_with (first | ((with_reducible refine zg 5 rfl ?_); refine z3 5 27 a1_0 a1_1 a1_2 ?_; intro gb691 hg w8 BK691 hb; have GW691 := sg hg; replace HB := bs hb; clear hb hg))
  replace BK691 := Aside0.mk (blk_drew BK691.out)
  replace HB := Aside0.mk (below_drew1 HB.out)
  refine sw 11 (fun w' => w'.cell? ⟨gb691, 0, none⟩ = some (.int .i64 a1_0) ∧ w'.cell? ⟨gb691, 1, none⟩ = some (.int .i64 a1_1) ∧ w'.cell? ⟨gb691, 2, none⟩ = some (.int .i64 a1_2)) impl_nearness.tab1 impl_nearness.bits1 (e3 BK691) (fun hHeld HT_ HW_ => ?_)
  generalize w8.drew = w9 at BK691 HB hHeld ⊢
  refine pu 0 (some 10) (tA 11 1) HT_ ?_
  refine pu 1 (some 11) (tA 11 3) HT_ ?_
  refine pu 4 (some 14) (tA 11 19) HT_ ?_
  refine pu 7 (some 17) (tA 11 147) HT_ ?_
  refine tk3 5 (some 15) (tA 11 179) HT_ HW_ hHeld ?_
  refine o1 2 (some 12) (tA 11 183) HT_ (fun K hK => ?_)
  refine gs Try.func103 #[.int .i64 a0, .int .i64 6] ?_
  with_reducible refine (impl_power.calls k a0 6 t692 _ A5.out).mono ?_
  rintro e w' ⟨rfl, ⟨nd, rfl⟩⟩
  refine ⟨_, rfl, ?_⟩
  refine hK.out _ _ (e3 BK691) (fun hHeld => ?_)
  clear hK K
  refine nm (some 12) ?_
  refine pu 3 (some 13) (tA 11 191) HT_ ?_
  refine o1 6 (some 16) (tA 11 255) HT_ (fun K hK => ?_)
  refine gs Try.func95 #[.int .i64 a0, .agg #[.int .i64 a1_0, .int .i64 a1_1, .int .i64 a1_2]] ?_
  with_reducible refine (impl_mark.calls k a0 a1_0 a1_1 a1_2 t693 _ A6.out).mono ?_
  rintro e w10 ⟨rfl, hb⟩
  refine ⟨_, rfl, ?_⟩
  replace BK691 := bb BK691 hb
  replace HB := bs hb
  (try clear hb)
  (try clear hb2)
  (try clear hk)
  (try clear hi)
  refine hK.out _ _ (e3 BK691) (fun hHeld => ?_)
  clear hK K
  refine nm (some 16) ?_
  refine pu 8 (some 18) (tA 11 511) HT_ ?_
  refine pu 9 (some 19) (tA 11 1023) HT_ ?_
  refine pu 10 (some 9) (tA 11 2047) HT_ ?_
  refine done_ (done_of HT_.out (by kernel_rfl)) ?_
  try go_wp2
  go_ret
  exact ⟨er, bl⟩
 ·obtain ⟨c7b0, c7b1⟩ := zy c7
  replace H := zi H
  obtain ⟨t694, A11, H⟩ := H
  try dsimp only at H
  replace H := zi H
  obtain ⟨t695, A12, H⟩ := H
  try dsimp only at H
  obtain rfl := Option.some.inj H
  go_enter Try.func130, Try.ntmps130
  try go_wp2_with (first | ((with_reducible refine zg 5 rfl ?_); refine z3 5 27 a1_0 a1_1 a1_2 ?_; intro gb691 hg w13 BK691 hb; have GW691 := sg hg; replace HB := bs hb; clear hb hg))
  replace BK691 := Aside0.mk (blk_drew BK691.out)
  replace HB := Aside0.mk (below_drew1 HB.out)
  refine sw 11 (fun w' => w'.cell? ⟨gb691, 0, none⟩ = some (.int .i64 a1_0) ∧ w'.cell? ⟨gb691, 1, none⟩ = some (.int .i64 a1_1) ∧ w'.cell? ⟨gb691, 2, none⟩ = some (.int .i64 a1_2)) impl_nearness.tab1 impl_nearness.bits1 (e3 BK691) (fun hHeld HT_ HW_ => ?_)
  generalize w13.drew = w14 at BK691 HB hHeld ⊢
  refine pu 0 (some 10) (tA 11 1) HT_ ?_
  refine pu 1 (some 11) (tA 11 3) HT_ ?_
  refine pu 4 (some 14) (tA 11 19) HT_ ?_
  refine pu 7 (some 17) (tA 11 147) HT_ ?_
  refine tk3 5 (some 15) (tA 11 179) HT_ HW_ hHeld ?_
  refine o1 2 (some 12) (tA 11 183) HT_ (fun K hK => ?_)
  refine gs Try.func103 #[.int .i64 a0, .int .i64 6] ?_
  with_reducible refine (impl_power.calls k a0 6 t692 _ A5.out).mono ?_
  rintro e w' ⟨rfl, ⟨nd, rfl⟩⟩
  refine ⟨_, rfl, ?_⟩
  refine hK.out _ _ (e3 BK691) (fun hHeld => ?_)
  clear hK K
  refine nm (some 12) ?_
  refine pu 3 (some 13) (tA 11 191) HT_ ?_
  refine o1 6 (some 16) (tA 11 255) HT_ (fun K hK => ?_)
  refine gs Try.func95 #[.int .i64 a0, .agg #[.int .i64 a1_0, .int .i64 a1_1, .int .i64 a1_2]] ?_
  with_reducible refine (impl_mark.calls k a0 a1_0 a1_1 a1_2 t693 _ A6.out).mono ?_
  rintro e w15 ⟨rfl, hb⟩
  refine ⟨_, rfl, ?_⟩
  replace BK691 := bb BK691 hb
  replace HB := bs hb
  (try clear hb)
  (try clear hb2)
  (try clear hk)
  (try clear hi)
  refine hK.out _ _ (e3 BK691) (fun hHeld => ?_)
  clear hK K
  refine nm (some 16) ?_
  refine pu 8 (some 18) (tA 11 511) HT_ ?_
  refine pu 9 (some 19) (tA 11 1023) HT_ ?_
  refine pu 10 (some 9) (tA 11 2047) HT_ ?_
  refine done_ (done_of HT_.out (by kernel_rfl)) ?_
  try go_wp2_with (first | ((with_reducible refine zf 137 rfl ?_); refine g1 (some 24) Try.func137 #[.int .i64 a0, .int .i64 (wrap64 ((wrap64 (a2 * t692)) - (wrap64 (t693 * a3))))] ?_; (with_reducible refine (impl_valuation.calls k a0 (wrap64 ((wrap64 (a2 * t692)) - (wrap64 (t693 * a3)))) t694 _ A11.out).mono ?_); rintro e w' ⟨rfl, ⟨nd, rfl⟩⟩; refine ⟨_, rfl, ?_⟩) | ((with_reducible refine zf 137 rfl ?_); refine g1 (some 27) Try.func137 #[.int .i64 a0, .int .i64 a3] ?_; (with_reducible refine (impl_valuation.calls k a0 a3 t695 _ A12.out).mono ?_); rintro e w' ⟨rfl, ⟨nd, rfl⟩⟩; refine ⟨_, rfl, ?_⟩))
  go_ret
  exact ⟨er, bl⟩

/-! ### impl_turning: function 123 -/
def impl_turning.f (k : Nat) (a0 : Int) (a1_0 : Int) (a1_1 : Int) (a1_2 : Int) (a2_0 : Int) (a2_1 : Int) : Option (Int) := (impl_nearness.f k a0 a1_0 a1_1 a1_2 a2_0 a2_1).bind fun t698 => (some (mn a1_0 t698))
def impl_turning.T1 : Bool × List (List Nat × List Nat) := (true, [([], []), ([0], [0]), ([], []), ([], []), ([], []), ([4], [4]), ([], []), ([6], [6]), ([2, 3, 5, 7], [2, 3, 5, 7]), ([1, 8], [1, 8]), ([9, 8, 0, 1, 2, 3, 4, 5, 6, 7, 8, 9], [9])])
def impl_turning.B1 : List Nat := [0, 1, 0, 0, 0, 16, 0, 64, 252, 511, 1023]
theorem impl_turning.tab1 : rtab .any (opsOf Try.f123 1) = impl_turning.T1 := by kernel_rfl
theorem impl_turning.bits1 : waitsOk impl_turning.T1.2 impl_turning.B1 = true := by kernel_rfl
set_option maxHeartbeats 8000000 in
set_option maxRecDepth 100000 in
theorem impl_turning.calls (k : Nat) (a0 : Int) (a1_0 : Int) (a1_1 : Int) (a1_2 : Int) (a2_0 : Int) (a2_1 : Int) (r : Int) (w : World) (h : impl_turning.f k a0 a1_0 a1_1 a1_2 a2_0 a2_1 = some r) :
  Calls Try.prog 123 #[.int .i64 a0, .agg #[.int .i64 a1_0, .int .i64 a1_1, .int .i64 a1_2], .agg #[.int .i64 a2_0, .int .i64 a2_1]] w fun e w' => e = .returned (.int .i64 r) ∧ Below w.heap.size w w' := by
 have hu27 := Try.underlying27
 have hu63 := Try.underlying63
 have HB := Aside0.mk (Below.refl w.heap.size w)
 unfold impl_turning.f at h
 have H := h
 clear h
 replace H := zi H
 obtain ⟨t698, A4, H⟩ := H
 try dsimp only at H
 obtain ⟨ji5, hji5⟩ : ∃ j_ : Int, (mn a1_0 t698) = j_ := ⟨_, rfl⟩
 replace H : (some ji5) = some r := by first | (rw [hji5] at H; exact H) | (simp only [hji5] at H ⊢; exact H)
 (try rw [hji5] at A4)
 have hji5_ : (if t698 < a1_0 then t698 else a1_0) = ji5 := hji5
 obtain rfl := Option.some.inj H
 go_enter Try.func123, Try.ntmps123
 try go_wp2_with (first | ((with_reducible refine zg 4 rfl ?_); refine z3 4 27 a1_0 a1_1 a1_2 ?_; intro gb696 hg w6 BK696 hb; have GW696 := sg hg; replace HB := bs hb; clear hb hg) | ((with_reducible refine zg 5 rfl ?_); refine zb 5 63 #[.int .i64 a2_0, .int .i64 a2_1] ?_; intro gb697 hg w7 BK697 hb; have GW697 := sg hg; have NB696_697 := nl hg BK696; replace BK696 := bb BK696 hb; replace HB := bs hb; clear hb hg))
 replace BK696 := Aside0.mk (blk_drew BK696.out)
 replace BK697 := Aside0.mk (blk_drew BK697.out)
 replace HB := Aside0.mk (below_drew1 HB.out)
 refine sw 11 (fun w' => w'.cell? ⟨gb696, 0, none⟩ = some (.int .i64 a1_0) ∧ w'.cell? ⟨gb696, 1, none⟩ = some (.int .i64 a1_1) ∧ w'.cell? ⟨gb696, 2, none⟩ = some (.int .i64 a1_2) ∧ w'.cell? ⟨gb697, 0, none⟩ = some (.int .i64 a2_0) ∧ w'.cell? ⟨gb697, 1, none⟩ = some (.int .i64 a2_1)) impl_turning.tab1 impl_turning.bits1 (e3r BK696 ⟨(blk_cell BK697.out 0).trans rfl, (blk_cell BK697.out 1).trans rfl⟩) (fun hHeld HT_ HW_ => ?_)
 generalize w7.drew = w8 at BK696 BK697 HB hHeld ⊢
 refine pu 0 (some 7) (tA 11 1) HT_ ?_
 refine pu 2 (some 9) (tA 11 5) HT_ ?_
 refine pu 4 (some 11) (tA 11 21) HT_ ?_
 refine pu 6 (some 13) (tA 11 85) HT_ ?_
 refine tk5 1 (some 8) (tA 11 87) HT_ HW_ hHeld ?_
 refine tk5 3 (some 10) (tA 11 95) HT_ HW_ hHeld ?_
 refine tk5 5 (some 12) (tA 11 127) HT_ HW_ hHeld ?_
 refine tk5 7 (some 14) (tA 11 255) HT_ HW_ hHeld ?_
 refine o1 8 (some 15) (tA 11 511) HT_ (fun K hK => ?_)
 refine gs Try.func130 #[.int .i64 a0, .agg #[.int .i64 a1_0, .int .i64 a1_1, .int .i64 a1_2], .int .i64 a2_0, .int .i64 a2_1] ?_
 with_reducible refine (impl_nearness.calls k a0 a1_0 a1_1 a1_2 a2_0 a2_1 t698 _ A4.out).mono ?_
 rintro e w9 ⟨rfl, hb⟩
 refine ⟨_, rfl, ?_⟩
 replace BK696 := bb BK696 hb
 replace BK697 := bb BK697 hb
 replace HB := bs hb
 (try clear hb)
 (try clear hb2)
 (try clear hk)
 (try clear hi)
 refine hK.out _ _ (e3r BK696 ⟨(blk_cell BK697.out 0).trans rfl, (blk_cell BK697.out 1).trans rfl⟩) (fun hHeld => ?_)
 clear hK K
 refine nm (some 15) ?_
 refine pu 9 (some 16) (tA 11 1023) HT_ ?_
 refine pu 10 (some 6) (tA 11 2047) HT_ ?_
 refine done_ (done_of HT_.out (by kernel_rfl)) ?_
 try go_wp2
 go_ret
 exact ⟨by first | rfl | (simp [errW_none, errW_some] <;> rfl) | (simp only [← hji5]; first | rfl | (simp [errW_none, errW_some] <;> rfl)) | (simp [*, errW_none, errW_some] <;> rfl), bl⟩

end Go.Proofs.Ytpmepopagapeiaa.PFnMedians

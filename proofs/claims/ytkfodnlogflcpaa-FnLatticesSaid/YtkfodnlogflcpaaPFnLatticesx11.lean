-- Printed by the kit's print and repaired by a program of this session.
import Derived.Test.YtkfodnlogflcpaaPFnLatticesx0
import Derived.Test.YtkfodnlogflcpaaPFnLatticesx3
import Derived.Test.YtkfodnlogflcpaaPFnLatticesx4
import Derived.Test.YtkfodnlogflcpaaPFnLatticesx6
import Derived.Test.YtkfodnlogflcpaaPFnLatticesx8
namespace Go.Proofs.Ytkfodnlogflcpaa.PFnLattices
open Go.RowKit Go.Proofs.YtkfodnlogflcpaaW.PrintWords Go.Proofs.YtkfodnlogflcpaaW.PrintLast Go.Proofs.YtkfodnlogflcpaaW.PrintMore
attribute [local go_sem] max2_int min2_int max_two min_two max_three min_three max_four min_four
set_option linter.unusedVariables false
set_option linter.unusedSimpArgs false

/-! ### impl_primitive: function 58 -/
def impl_primitive.f (k : Nat) (a0 : Int) (a1_0 : Int) (a1_1 : Int) (a1_2 : Int) : Option (Int × Int × Int × Int) := (impl_valuation.f k a0 a1_1).bind fun t338 => ((impl_power.f k a0 (mn (mn a1_0 a1_2) t338)).bind fun t339 => (if t339 = 0 then (none) else (some (wrap64 (a1_0 - (mn (mn a1_0 a1_2) t338)), wrap64 (Int.tdiv a1_1 t339), wrap64 (a1_2 - (mn (mn a1_0 a1_2) t338)), mn (mn a1_0 a1_2) t338))))
def impl_primitive.T1 : Bool × List (List Nat × List Nat) := (true, [([], []), ([0], [0]), ([], []), ([2], [2]), ([], []), ([], []), ([5], [5]), ([4, 6], [4, 6]), ([1, 3, 7], [1, 3, 7]), ([8, 7, 0, 1, 2, 3, 4, 5, 6, 7, 8], [8])])
def impl_primitive.B1 : List Nat := [0, 1, 0, 4, 0, 0, 32, 112, 255, 511]
theorem impl_primitive.tab1 : rtab .any (opsOf Try.f58 1) = impl_primitive.T1 := by kernel_rfl
theorem impl_primitive.bits1 : waitsOk impl_primitive.T1.2 impl_primitive.B1 = true := by kernel_rfl
def impl_primitive.T2 : Bool × List (List Nat × List Nat) := (true, [([], []), ([0], [0]), ([], []), ([1, 2], [1, 2]), ([], []), ([4], [4]), ([], []), ([], []), ([6, 7], [6, 7]), ([5, 8], [5, 8]), ([], []), ([10], [10]), ([], []), ([11, 12], [11, 12]), ([3, 9, 13], [3, 9, 13]), ([], []), ([14, 8, 0, 1, 2, 3, 4, 5, 6, 7, 8, 9, 10, 11, 12, 13, 14], [14]), ([15, 16, 0, 1, 2, 3, 4, 5, 6, 7, 8, 9, 10, 11, 12, 13, 14, 15, 16], [15])])
def impl_primitive.B2 : List Nat := [0, 1, 0, 7, 0, 16, 0, 0, 192, 496, 0, 1024, 0, 7168, 16383, 0, 32767, 131071]
theorem impl_primitive.tab2 : rtab .any (opsOf Try.f58 2) = impl_primitive.T2 := by kernel_rfl
theorem impl_primitive.bits2 : waitsOk impl_primitive.T2.2 impl_primitive.B2 = true := by kernel_rfl
set_option maxHeartbeats 8000000 in
set_option maxRecDepth 100000 in
theorem impl_primitive.calls (k : Nat) (a0 : Int) (a1_0 : Int) (a1_1 : Int) (a1_2 : Int) (r1 : Int) (r2 : Int) (r3 : Int) (r4 : Int) (w : World) (h : impl_primitive.f k a0 a1_0 a1_1 a1_2 = some (r1, r2, r3, r4)) :
  Calls Try.prog 58 #[.int .i64 a0, .agg #[.int .i64 a1_0, .int .i64 a1_1, .int .i64 a1_2]] w fun e w' => e = .returned (.tuple #[.agg #[.int .i64 r1, .int .i64 r2, .int .i64 r3], .int .i64 r4]) ∧ Below w.heap.size w w' := by
 have hu27 := Try.underlying27
 have HB := Aside0.mk (Below.refl w.heap.size w)
 unfold impl_primitive.f at h
 have H := h
 clear h
 replace H := zi H
 obtain ⟨t338, A3, H⟩ := H
 try dsimp only at H
 obtain ⟨ji4, hji4⟩ : ∃ j_ : Int, (mn a1_0 a1_2) = j_ := ⟨_, rfl⟩
 replace H : ((impl_power.f k a0 (mn (ji4) t338)).bind fun t339 => (if t339 = 0 then (none) else (some (wrap64 (a1_0 - (mn (ji4) t338)), wrap64 (Int.tdiv a1_1 t339), wrap64 (a1_2 - (mn (ji4) t338)), mn (ji4) t338)))) = some (r1, r2, r3, r4) := by first | (rw [hji4] at H; exact H) | (simp only [hji4] at H ⊢; exact H)
 (try rw [hji4] at A3)
 have hji4_ : (if a1_2 < a1_0 then a1_2 else a1_0) = ji4 := hji4
 obtain ⟨ji5, hji5⟩ : ∃ j_ : Int, (mn (ji4) t338) = j_ := ⟨_, rfl⟩
 replace H : ((impl_power.f k a0 (ji5)).bind fun t339 => (if t339 = 0 then (none) else (some (wrap64 (a1_0 - (ji5)), wrap64 (Int.tdiv a1_1 t339), wrap64 (a1_2 - (ji5)), ji5)))) = some (r1, r2, r3, r4) := by first | (rw [hji5] at H; exact H) | (simp only [hji5] at H ⊢; exact H)
 (try rw [hji5] at A3)
 have hji5_ : (if t338 < (ji4) then t338 else (ji4)) = ji5 := hji5
 replace H := zi H
 obtain ⟨t339, A6, H⟩ := H
 try dsimp only at H
 replace H := ii H
 rcases H with ⟨c7, H⟩ | ⟨c7, H⟩
 ·exact absurd H (by simp)
 ·obtain ⟨c7b0, c7b1⟩ := zy c7
  simp only [Option.some.injEq, Prod.mk.injEq] at H
  obtain ⟨rfl, rfl, rfl, rfl⟩ := H
  go_enter Try.func58, Try.ntmps58
  try go_wp2_with (first | ((with_reducible refine zg 3 rfl ?_); refine z3 3 27 a1_0 a1_1 a1_2 ?_; intro gb336 hg w8 BK336 hb; have GW336 := sg hg; replace HB := bs hb; clear hb hg) | ((with_reducible refine zg 4 rfl ?_); refine z3 4 27 0 0 0 ?_; intro gb337 hg w9 BK337 hb; have GW337 := sg hg; have NB336_337 := nl hg BK336; replace BK336 := bb BK336 hb; replace HB := bs hb; clear hb hg))
  replace BK336 := Aside0.mk (blk_drew BK336.out)
  replace BK337 := Aside0.mk (blk_drew BK337.out)
  replace HB := Aside0.mk (below_drew1 HB.out)
  refine sw 10 (fun w' => w'.cell? ⟨gb336, 0, none⟩ = some (.int .i64 a1_0) ∧ w'.cell? ⟨gb336, 1, none⟩ = some (.int .i64 a1_1) ∧ w'.cell? ⟨gb336, 2, none⟩ = some (.int .i64 a1_2)) impl_primitive.tab1 impl_primitive.bits1 (e3 BK336) (fun hHeld HT_ HW_ => ?_)
  generalize w9.drew = w10 at BK336 BK337 HB hHeld ⊢
  refine pu 0 (some 7) (tA 10 1) HT_ ?_
  refine pu 2 (some 9) (tA 10 5) HT_ ?_
  refine pu 4 (some 11) (tA 10 21) HT_ ?_
  refine pu 5 (some 12) (tA 10 53) HT_ ?_
  refine tk3 1 (some 8) (tA 10 55) HT_ HW_ hHeld ?_
  refine tk3 3 (some 10) (tA 10 63) HT_ HW_ hHeld ?_
  refine tk3 6 (some 13) (tA 10 127) HT_ HW_ hHeld ?_
  refine o1 7 (some 14) (tA 10 255) HT_ (fun K hK => ?_)
  refine gs Try.func50 #[.int .i64 a0, .int .i64 a1_1] ?_
  with_reducible refine (impl_valuation.calls k a0 a1_1 t338 _ A3.out).mono ?_
  rintro e w' ⟨rfl, ⟨nd, rfl⟩⟩
  refine ⟨_, rfl, ?_⟩
  refine hK.out _ _ (e3 BK336) (fun hHeld => ?_)
  clear hK K
  refine nm (some 14) ?_
  refine pu 8 (some 15) (tA 10 511) HT_ ?_
  refine pu 9 (some 6) (tA 10 1023) HT_ ?_
  refine done_ (done_of HT_.out (by kernel_rfl)) ?_
  try go_wp2
  (try (rw [drewN_self w10]; generalize hq_ : World.drewN w10 _ = w10; have n0_ : Aside0 (w10.heap[gb336]? = some (.cells #[.int .i64 a1_0, .int .i64 a1_1, .int .i64 a1_2] 27 (0, 0))) := ⟨by rw [← hq_]; exact (be BK336)⟩; have n1_ : Aside0 (w10.heap[gb337]? = some (.cells #[.int .i64 0, .int .i64 0, .int .i64 0] 27 (0, 0))) := ⟨by rw [← hq_]; exact (be BK337)⟩; have n2_ : Aside0 (Below w.heap.size w w10) := ⟨by rw [← hq_]; exact (bl)⟩; clear BK336 BK337 HB hq_; have BK336 := n0_; have BK337 := n1_; have HB := n2_; clear n0_ n1_ n2_))
  replace BK336 := Aside0.mk (blk_drew BK336.out)
  replace BK337 := Aside0.mk (blk_drew BK337.out)
  replace HB := Aside0.mk (below_drew1 HB.out)
  refine sw 18 (fun w' => w'.cell? ⟨gb336, 0, none⟩ = some (.int .i64 a1_0) ∧ w'.cell? ⟨gb336, 1, none⟩ = some (.int .i64 a1_1) ∧ w'.cell? ⟨gb336, 2, none⟩ = some (.int .i64 a1_2)) impl_primitive.tab2 impl_primitive.bits2 (e3 BK336) (fun hHeld HT_ HW_ => ?_)
  generalize w10.drew = w11 at BK336 BK337 HB hHeld ⊢
  refine pu 0 (some 16) (tA 18 1) HT_ ?_
  refine pu 2 (some 18) (tA 18 5) HT_ ?_
  refine pu 4 (some 20) (tA 18 21) HT_ ?_
  refine pu 6 (some 22) (tA 18 85) HT_ ?_
  refine pu 7 (some 23) (tA 18 213) HT_ ?_
  refine pu 10 (some 26) (tA 18 1237) HT_ ?_
  refine pu 12 (some 28) (tA 18 5333) HT_ ?_
  refine pu 15 (some 31) (tA 18 38101) HT_ ?_
  refine tk3 1 (some 17) (tA 18 38103) HT_ HW_ hHeld ?_
  refine pu 3 (some 19) (tA 18 38111) HT_ ?_
  refine tk3 5 (some 21) (tA 18 38143) HT_ HW_ hHeld ?_
  refine tk3 11 (some 27) (tA 18 40191) HT_ HW_ hHeld ?_
  refine pu 13 (some 29) (tA 18 48383) HT_ ?_
  refine o1 8 (some 24) (tA 18 48639) HT_ (fun K hK => ?_)
  refine goes_ Try.func37 (by kernel_rfl) rfl #[.int .i64 a0, .int .i64 ji5] (by rfl) rfl rfl (by (try simp only [List.map_toArray, List.map_cons, List.map_nil]); first | done | (simp only [hji5]; rfl) | rfl | (simp only [List.length_drop, List.length_take]; rfl)) ?_
  with_reducible refine (impl_power.calls k a0 ji5 t339 _ A6.out).mono ?_
  rintro e w' ⟨rfl, ⟨nd, rfl⟩⟩
  refine ⟨_, rfl, ?_⟩
  refine hK.out _ _ (e3 BK336) (fun hHeld => ?_)
  clear hK K
  refine nm (some 24) ?_
  refine pu 9 (some 25) (tA 18 49151) HT_ ?_
  refine pu 14 (some 30) (tA 18 65535) HT_ ?_
  refine o1 16 none (tA 18 131071) HT_ (fun K hK => ?_)
  have hs12 : w11.cell? ⟨gb337, 0, none⟩ = some (.int .i64 0) := (blk_cell BK337.out 0).trans rfl
  have hfs12 := blk_frozen BK337.out 0
  obtain ⟨hns12_0, hms12_0⟩ := zn NB336_337
  have hs13 : w11.cell? ⟨gb337, 1, none⟩ = some (.int .i64 0) := (blk_cell BK337.out 1).trans rfl
  have hfs13 := blk_frozen BK337.out 1
  obtain ⟨hns13_0, hms13_0⟩ := zn NB336_337
  have hs14 : w11.cell? ⟨gb337, 2, none⟩ = some (.int .i64 0) := (blk_cell BK337.out 2).trans rfl
  have hfs14 := blk_frozen BK337.out 2
  obtain ⟨hns14_0, hms14_0⟩ := zn NB336_337
  refine skip_ (w1 := ?_) (by rfl) rfl ?_ ?_
  rotate_left
  ·go_simp
   rfl
  refine hK.out _ _ (m3 hHeld (fun e => cf gb337 NB336_337 (cf gb337 NB336_337 (cf gb337 NB336_337 e)))) (fun hHeld => ?_)
  clear hK K
  refine pu 17 (some 5) (tA 18 262143) HT_ ?_
  refine done_ (done_of HT_.out (by kernel_rfl)) ?_
  try go_wp2
  refine bodyPost_ret (results_ct rfl _ _ gb337 27 #[.int .i64 (wrap64 (a1_0 - (ji5))), .int .i64 (wrap64 (Int.tdiv a1_1 t339)), .int .i64 (wrap64 (a1_2 - (ji5)))] (0, 0) _ rfl (bp) Try.underlying27 rfl (by kernel_rfl)) rfl ?_
  exact ⟨by first | rfl | (simp [errW_none, errW_some] <;> rfl) | (simp only [← hji4, ← hji5]; first | rfl | (simp [errW_none, errW_some] <;> rfl)) | (simp [*, errW_none, errW_some] <;> rfl), bl⟩

/-! ### impl_PrimitiveOf: function 20 -/
def impl_PrimitiveOf.f (k : Nat) (a0 : Int) (a1_0 : Int) (a1_1 : Int) (a1_2 : Int) : Option (Int × Int × Int × Int × Int) := (impl_IsLattice.f k a0 a1_0 a1_1 a1_2).bind fun t342 => (if t342 = true then ((impl_primitive.f k a0 a1_0 a1_1 a1_2).bind fun bt343 => (some (bt343.1, bt343.2.1, bt343.2.2.1, bt343.2.2.2, 0))) else (some (0, 0, 0, 0, 1)))
set_option maxHeartbeats 8000000 in
set_option maxRecDepth 100000 in
theorem impl_PrimitiveOf.calls (k : Nat) (a0 : Int) (a1_0 : Int) (a1_1 : Int) (a1_2 : Int) (r1 : Int) (r2 : Int) (r3 : Int) (r4 : Int) (r5 : Int) (w : World) (h : impl_PrimitiveOf.f k a0 a1_0 a1_1 a1_2 = some (r1, r2, r3, r4, r5)) :
  Calls Try.prog 20 #[.int .i64 a0, .agg #[.int .i64 a1_0, .int .i64 a1_1, .int .i64 a1_2]] w fun e w' => e = .returned (.tuple #[.agg #[.int .i64 r1, .int .i64 r2, .int .i64 r3], .int .i64 r4, .int .i64 r5]) ∧ Below w.heap.size w w' := by
 have hu27 := Try.underlying27
 have HB := Aside0.mk (Below.refl w.heap.size w)
 unfold impl_PrimitiveOf.f at h
 have H := h
 clear h
 replace H := zi H
 obtain ⟨t342, A3, H⟩ := H
 try dsimp only at H
 by_cases c4 : t342 = true
 ·subst c4
  rw [if_pos rfl] at H
  replace H := zi H
  obtain ⟨⟨t343, t344, t345, t346⟩, A5, H⟩ := H
  try dsimp only at H
  simp only [Option.some.injEq, Prod.mk.injEq] at H
  obtain ⟨rfl, rfl, rfl, rfl, rfl⟩ := H
  go_enter Try.func20, Try.ntmps20
  go_wp2_with (first | ((with_reducible refine zg 3 rfl ?_); refine z3 3 27 a1_0 a1_1 a1_2 ?_; intro gb340 hg w6 BK340 hb; have GW340 := sg hg; replace HB := bs hb; clear hb hg) | ((with_reducible refine zg 4 rfl ?_); refine z3 4 27 0 0 0 ?_; intro gb341 hg w7 BK341 hb; have GW341 := sg hg; have NB340_341 := nl hg BK340; replace BK340 := bb BK340 hb; replace HB := bs hb; clear hb hg; obtain ⟨hnb8, hnc8⟩ := zn NB340_341; obtain ⟨hcz9_0, hcz9_1, hcz9_2, hfz9_0, hfz9_1, hfz9_2⟩ := cq3 BK340) | ((with_reducible refine zf 18 rfl ?_); refine g1 (some 11) Try.func18 #[.int .i64 a0, .agg #[.int .i64 a1_0, .int .i64 a1_1, .int .i64 a1_2]] ?_; (with_reducible refine (impl_IsLattice.calls k a0 a1_0 a1_1 a1_2 true _ A3.out).mono ?_); rintro e w10 ⟨rfl, hb⟩; refine ⟨_, rfl, ?_⟩; replace BK340 := bb BK340 hb; replace BK341 := bb BK341 hb; replace HB := bs hb; (try clear hb); obtain ⟨hcz11_0, hcz11_1, hcz11_2, hfz11_0, hfz11_1, hfz11_2⟩ := cq3 BK340) | ((with_reducible refine zf 58 rfl ?_); refine g1 (some 17) Try.func58 #[.int .i64 a0, .agg #[.int .i64 a1_0, .int .i64 a1_1, .int .i64 a1_2]] ?_; (with_reducible refine (impl_primitive.calls k a0 a1_0 a1_1 a1_2 t343 t344 t345 t346 _ A5.out).mono ?_); rintro e w12 ⟨rfl, hb⟩; refine ⟨_, rfl, ?_⟩; replace BK340 := bb BK340 hb; replace BK341 := bb BK341 hb; replace HB := bs hb; (try clear hb)) | ((with_reducible refine zg 7 rfl ?_); refine z3 7 27 0 0 0 ?_; intro gb347 hg w13 BK347 hb; have GW347 := sg hg; have NB340_347 := nl hg BK340; have NB341_347 := nl hg BK341; replace BK340 := bb BK340 hb; replace BK341 := bb BK341 hb; replace HB := bs hb; clear hb hg; obtain ⟨hnb14, hnc14⟩ := zm NB340_347; obtain ⟨hnb15, hnc15⟩ := zm NB341_347; obtain ⟨hcz16_0, hcz16_1, hcz16_2, hfz16_0, hfz16_1, hfz16_2⟩ := cq3 BK347; obtain ⟨hcz17_0, hcz17_1, hcz17_2, hfz17_0, hfz17_1, hfz17_2⟩ := cq3 BK341))
  refine bodyPost_ret (results_ctt rfl _ _ gb341 27 #[.int .i64 t343, .int .i64 t344, .int .i64 t345] (0, 0) _ rfl (bp) Try.underlying27 rfl (by kernel_rfl)) rfl ?_
  exact ⟨er, bl⟩
 ·replace c4 := Bool.eq_false_iff.mpr c4
  subst c4
  have H1 : (some (0, 0, 0, 0, 1)) = some (r1, r2, r3, r4, r5) := by rw [if_neg (show ¬ (false = true) by decide)] at H; exact H
  clear H
  have H := H1
  clear H1
  simp only [Option.some.injEq, Prod.mk.injEq] at H
  obtain ⟨rfl, rfl, rfl, rfl, rfl⟩ := H
  go_enter Try.func20, Try.ntmps20
  go_wp2_with (first | ((with_reducible refine zg 3 rfl ?_); refine z3 3 27 a1_0 a1_1 a1_2 ?_; intro gb340 hg w18 BK340 hb; have GW340 := sg hg; replace HB := bs hb; clear hb hg) | ((with_reducible refine zg 4 rfl ?_); refine z3 4 27 0 0 0 ?_; intro gb341 hg w19 BK341 hb; have GW341 := sg hg; have NB340_341 := nl hg BK340; replace BK340 := bb BK340 hb; replace HB := bs hb; clear hb hg; obtain ⟨hnb20, hnc20⟩ := zn NB340_341; obtain ⟨hcz21_0, hcz21_1, hcz21_2, hfz21_0, hfz21_1, hfz21_2⟩ := cq3 BK340) | ((with_reducible refine zf 18 rfl ?_); refine g1 (some 11) Try.func18 #[.int .i64 a0, .agg #[.int .i64 a1_0, .int .i64 a1_1, .int .i64 a1_2]] ?_; (with_reducible refine (impl_IsLattice.calls k a0 a1_0 a1_1 a1_2 false _ A3.out).mono ?_); rintro e w22 ⟨rfl, hb⟩; refine ⟨_, rfl, ?_⟩; replace BK340 := bb BK340 hb; replace BK341 := bb BK341 hb; replace HB := bs hb; (try clear hb); obtain ⟨hcz23_0, hcz23_1, hcz23_2, hfz23_0, hfz23_1, hfz23_2⟩ := cq3 BK341))
  refine bodyPost_ret (results_ctt rfl _ _ gb341 27 #[.int .i64 0, .int .i64 0, .int .i64 0] (0, 0) _ rfl (bp) Try.underlying27 rfl (by kernel_rfl)) rfl ?_
  exact ⟨er, bl⟩

/-! ### spec_l03Is: function 60 -/
def spec_l03Is.j0 : Nat → Int → Bool → Int → Int → Int → Option (Bool)
 | 0, _, _, _, _, _ => none
 | k + 1, x0, x19, x349000, x349001, x349002 => if x19 = true then (some false) else ((spec_l01Power.f k x0 x349000).bind fun t352 => ((spec_l01In.f x349001 0 (wrap64 (t352 - 1))).bind fun t353 => (some t353)))
def spec_l03Is.f (k : Nat) (a0 : Int) (a1_0 : Int) (a1_1 : Int) (a1_2 : Int) : Option (Bool) := (spec_l01Prime.f a0).bind fun t349 => (if t349 = true then ((spec_l01In.f a1_0 0 12).bind fun t350 => (if t350 = true then ((spec_l01In.f a1_2 0 12).bind fun t351 => (spec_l03Is.j0 k a0 (!t351) a1_0 a1_1 a1_2)) else (spec_l03Is.j0 k a0 true a1_0 a1_1 a1_2))) else (spec_l03Is.j0 k a0 true a1_0 a1_1 a1_2))
set_option maxHeartbeats 8000000 in
set_option maxRecDepth 100000 in
theorem spec_l03Is.calls (k : Nat) (a0 : Int) (a1_0 : Int) (a1_1 : Int) (a1_2 : Int) (r : Bool) (w : World) (h : spec_l03Is.f k a0 a1_0 a1_1 a1_2 = some r) :
  Calls Try.prog 60 #[.int .i64 a0, .agg #[.int .i64 a1_0, .int .i64 a1_1, .int .i64 a1_2]] w fun e w' => e = .returned (.bool r) ∧ Below w.heap.size w w' := by
 have hu27 := Try.underlying27
 have HB := Aside0.mk (Below.refl w.heap.size w)
 unfold spec_l03Is.f at h
 have H := h
 clear h
 have HC3 := Aside0.mk H
 clear H
 go_enter Try.func60, Try.ntmps60
 go_upto_region 1 with (first | ((with_reducible refine zg 3 rfl ?_); refine z3 3 27 a1_0 a1_1 a1_2 ?_; intro gb348 hg w4 BK348 hb; have GW348 := sg hg; replace HB := bs hb; clear hb hg))
 (try simp only [Act.put, zq, zr, zt])
 go_cut [19] (fun v19 wc => ∃ (kq : Nat) (x19_2 : Bool), v19 = .bool x19_2 ∧ Aside0 (spec_l03Is.j0 kq a0 x19_2 a1_0 a1_1 a1_2 = some r) ∧ Aside0 (kq ≤ k) ∧ Aside0 (wc.heap[gb348]? = some (.cells #[.int .i64 a1_0, .int .i64 a1_1, .int .i64 a1_2] 27 (0, 0))) ∧ Aside0 (Below w.heap.size w wc))
 case first =>
  have H := HC3.out
  clear HC3
  replace H := zi H
  obtain ⟨t349, A5, H⟩ := H
  try dsimp only at H
  by_cases c6 : t349 = true
  ·subst c6
   rw [if_pos rfl] at H
   replace H := zi H
   obtain ⟨t350, A7, H⟩ := H
   try dsimp only at H
   by_cases c8 : t350 = true
   ·subst c8
    rw [if_pos rfl] at H
    replace H := zi H
    obtain ⟨t351, A9, H⟩ := H
    try dsimp only at H
    have H' := Aside0.mk H
    clear H
    go_wp2_with (first | (go_at_call 54; (with_reducible refine (spec_l01Prime.calls a0 true _ A5.out).mono ?_); rintro e w' ⟨rfl, ⟨nd, rfl⟩⟩; (try first | exact zd | exact ze); obtain ⟨hcz10_0, hcz10_1, hcz10_2, hfz10_0, hfz10_1, hfz10_2⟩ := cq3 BK348) | (go_at_call 33; (with_reducible refine (spec_l01In.calls a1_0 0 12 true _ A7.out).mono ?_); rintro e w' ⟨rfl, ⟨nd, rfl⟩⟩; (try first | exact zd | exact ze)) | (go_at_call 33; (with_reducible refine (spec_l01In.calls a1_2 0 12 t351 _ A9.out).mono ?_); rintro e w' ⟨rfl, ⟨nd, rfl⟩⟩; (try first | exact zd | exact ze)))
    go_meet
    case rel => exact ⟨_, (!t351), (by first | rfl | (simp; done) | (simp [*]; done)), H', ⟨by first | omega | exact Nat.le_refl _⟩, ⟨be BK348⟩, ⟨bl⟩⟩
   ·replace c8 := Bool.eq_false_iff.mpr c8
    subst c8
    have H1 : (spec_l03Is.j0 k a0 true a1_0 a1_1 a1_2) = some r := by rw [if_neg (show ¬ (false = true) by decide)] at H; exact H
    clear H
    have H := H1
    clear H1
    have H' := Aside0.mk H
    clear H
    go_wp2_with (first | (go_at_call 54; (with_reducible refine (spec_l01Prime.calls a0 true _ A5.out).mono ?_); rintro e w' ⟨rfl, ⟨nd, rfl⟩⟩; (try first | exact zd | exact ze); obtain ⟨hcz11_0, hcz11_1, hcz11_2, hfz11_0, hfz11_1, hfz11_2⟩ := cq3 BK348) | (go_at_call 33; (with_reducible refine (spec_l01In.calls a1_0 0 12 false _ A7.out).mono ?_); rintro e w' ⟨rfl, ⟨nd, rfl⟩⟩; (try first | exact zd | exact ze)))
    go_meet
    case rel => exact ⟨_, (true), (by first | rfl | (simp; done) | (simp [*]; done)), H', ⟨by first | omega | exact Nat.le_refl _⟩, ⟨be BK348⟩, ⟨bl⟩⟩
  ·replace c6 := Bool.eq_false_iff.mpr c6
   subst c6
   have H1 : (spec_l03Is.j0 k a0 true a1_0 a1_1 a1_2) = some r := by rw [if_neg (show ¬ (false = true) by decide)] at H; exact H
   clear H
   have H := H1
   clear H1
   have H' := Aside0.mk H
   clear H
   go_wp2_with (first | (go_at_call 54; (with_reducible refine (spec_l01Prime.calls a0 false _ A5.out).mono ?_); rintro e w' ⟨rfl, ⟨nd, rfl⟩⟩; (try first | exact zd | exact ze)))
   go_meet
   case rel => exact ⟨_, (true), (by first | rfl | (simp; done) | (simp [*]; done)), H', ⟨by first | omega | exact Nat.le_refl _⟩, ⟨be BK348⟩, ⟨bl⟩⟩
 case rest =>
  clear HC3
  obtain ⟨kq, x19_2, rfl, HA, HJ2, BK348, HB⟩ := hcut
  cases kq with
  | zero => exact absurd HA.out (by simp [spec_l03Is.j0])
  | succ kj2 =>
   have H := HA.out
   clear HA
   simp only [spec_l03Is.j0] at H
   by_cases c12 : x19_2 = true
   ·subst c12
    rw [if_pos rfl] at H
    obtain rfl := Option.some.inj H
    go_wp2
    go_ret
    exact ⟨er, bl⟩
   ·replace c12 := Bool.eq_false_iff.mpr c12
    subst c12
    have H1 : ((spec_l01Power.f kj2 a0 a1_0).bind fun t352 => ((spec_l01In.f a1_1 0 (wrap64 (t352 - 1))).bind fun t353 => (some t353))) = some r := by rw [if_neg (show ¬ (false = true) by decide)] at H; exact H
    clear H
    have H := H1
    clear H1
    replace H := zi H
    obtain ⟨t352, A13, H⟩ := H
    try dsimp only at H
    replace H := zi H
    obtain ⟨t353, A14, H⟩ := H
    try dsimp only at H
    obtain rfl := Option.some.inj H
    obtain ⟨hcz15_0, hcz15_1, hcz15_2, hfz15_0, hfz15_1, hfz15_2⟩ := cq3 BK348
    go_wp2_with (first | (go_at_call 34; (with_reducible refine (spec_l01Power.calls kj2 a0 a1_0 t352 _ A13.out).mono ?_); rintro e w' ⟨rfl, ⟨nd, rfl⟩⟩; (try first | exact zd | exact ze)) | (go_at_call 33; (with_reducible refine (spec_l01In.calls a1_1 0 (wrap64 (t352 - 1)) t353 _ A14.out).mono ?_); rintro e w' ⟨rfl, ⟨nd, rfl⟩⟩; (try first | exact zd | exact ze)))
    repeat (go_quiet (first | (go_at_call 34; (with_reducible refine (spec_l01Power.calls kj2 a0 a1_0 t352 _ A13.out).mono ?_); rintro e w' ⟨rfl, ⟨nd, rfl⟩⟩; (try first | exact zd | exact ze)) | (go_at_call 33; (with_reducible refine (spec_l01In.calls a1_1 0 (wrap64 (t352 - 1)) t353 _ A14.out).mono ?_); rintro e w' ⟨rfl, ⟨nd, rfl⟩⟩; (try first | exact zd | exact ze))); try go_wp2_with (first | (go_at_call 34; (with_reducible refine (spec_l01Power.calls kj2 a0 a1_0 t352 _ A13.out).mono ?_); rintro e w' ⟨rfl, ⟨nd, rfl⟩⟩; (try first | exact zd | exact ze)) | (go_at_call 33; (with_reducible refine (spec_l01In.calls a1_1 0 (wrap64 (t352 - 1)) t353 _ A14.out).mono ?_); rintro e w' ⟨rfl, ⟨nd, rfl⟩⟩; (try first | exact zd | exact ze))))
    go_ret
    exact ⟨er, bl⟩

/-! ### spec_l03Code: function 32 -/
def spec_l03Code.l0 : Nat → Int → List (S27) → Int → Option (Int)
 | 0, _, _, _ => none
 | k + 1, x0, x1, x5 => if x5 < (x1.length : Int) then (if 0 ≤ x5 then ((spec_l03Is.f k x0 ((rd_T27 x1 x5).f0) ((rd_T27 x1 x5).f1) ((rd_T27 x1 x5).f2)).bind fun t356 => (if t356 = true then (spec_l03Code.l0 k x0 x1 (wrap64 (x5 + 1))) else (some 1))) else (none)) else (some 0)
def spec_l03Code.f (k : Nat) (a0 : Int) (l1 : List (S27)) : Option (Int) := (spec_l01Prime.f a0).bind fun t354 => (if t354 = true then (spec_l03Code.l0 k a0 l1 0) else (some 1))
set_option maxHeartbeats 8000000 in
set_option maxRecDepth 100000 in
theorem spec_l03Code.calls (k : Nat) (a0 : Int) (A1 : Option Addr) (c1 : Nat) (l1 : List (S27)) (r : Int) (w : World) (hr1 : Kd.C k27 w A1 l1.length l1) (hc1 : l1.length ≤ c1) (h : spec_l03Code.f k a0 l1 = some r) :
  Calls Try.prog 32 #[.int .i64 a0, .slice A1 l1.length c1] w fun e w' => e = .returned (.int .i64 r) ∧ Below w.heap.size w w' := by
 have hu27 := Try.underlying27
 have HR1 := Aside0.mk hr1
 have HC1 := Aside0.mk hc1
 clear hr1 hc1
 have HB := Aside0.mk (Below.refl w.heap.size w)
 unfold spec_l03Code.f at h
 have H := h
 clear h
 replace H := zi H
 obtain ⟨t354, A3, H⟩ := H
 try dsimp only at H
 by_cases c4 : t354 = true
 ·subst c4
  rw [if_pos rfl] at H
  have H' := Aside0.mk H
  clear H
  go_enter Try.func32, Try.ntmps32
  go_wp2_with (first | ((with_reducible refine zf 54 rfl ?_); refine g1 (some 7) Try.func54 #[.int .i64 a0] ?_; (with_reducible refine (spec_l01Prime.calls a0 true _ A3.out).mono ?_); rintro e w' ⟨rfl, ⟨nd, rfl⟩⟩; refine ⟨_, rfl, ?_⟩))
  go_loopg [5] k (fun kq v5 w' => ∃ (x5_1 : Int), v5 = .int .i64 x5_1 ∧ Aside0 (spec_l03Code.l0 kq a0 l1 x5_1 = some r) ∧ Aside0 (kq ≤ k) ∧ Aside0 (Below w.heap.size w w'))
  case atStart => exact ⟨(0), (by first | rfl | (simp; done) | (simp [*]; done)), H', ⟨Nat.le_refl _⟩, ⟨bl⟩⟩
  case round =>
   clear H'
   obtain ⟨x5_1, rfl, HA, HK1, HB⟩ := hrel
   cases gk with
   | zero => exact absurd HA.out (by simp [spec_l03Code.l0])
   | succ k1 =>
    have H := HA.out
    clear HA
    simp only [spec_l03Code.l0] at H
    replace H := ii H
    rcases H with ⟨c5, H⟩ | ⟨c5, H⟩
    ·have c5b0 := decide_eq_true c5
     clear c5
     replace H := ii H
     rcases H with ⟨c6, H⟩ | ⟨c6, H⟩
     ·have c6b0 := decide_eq_true c6
      clear c6
      replace H := zi H
      obtain ⟨t356, A7, H⟩ := H
      try dsimp only at H
      by_cases c8 : t356 = true
      ·subst c8
       rw [if_pos rfl] at H
       have H' := Aside0.mk H
       clear H
       have p355 : 0 ≤ (x5_1 : Int) := za
       have q355 : x5_1 < (l1.length : Int) := za
       obtain ⟨ad355, e355, hx355_0, hx355_1, hx355_2⟩ := at_T27 HR1.out x5_1 p355 q355
       cases e355
       replace hx355_0 := (HB.out.cell (World.block_lt_of_cell? w _ hx355_0)).trans hx355_0
       replace hx355_1 := (HB.out.cell (World.block_lt_of_cell? w _ hx355_1)).trans hx355_1
       replace hx355_2 := (HB.out.cell (World.block_lt_of_cell? w _ hx355_2)).trans hx355_2
       replace p355 := eq_true p355
       replace q355 := eq_true q355
       go_wp2_with (first | ((with_reducible refine zf 60 rfl ?_); refine g1 (some 20) Try.func60 #[.int .i64 a0, .agg #[.int .i64 ((rd_T27 l1 x5_1).f0), .int .i64 ((rd_T27 l1 x5_1).f1), .int .i64 ((rd_T27 l1 x5_1).f2)]] ?_; (with_reducible refine (spec_l03Is.calls k1 a0 ((rd_T27 l1 x5_1).f0) ((rd_T27 l1 x5_1).f1) ((rd_T27 l1 x5_1).f2) true _ A7.out).mono ?_); rintro e w9 ⟨rfl, hb⟩; refine ⟨_, rfl, ?_⟩; replace HB := bs hb; (try clear hb)))
       go_roundg k1
       case measure => have := HK1.out; omega
       case rel => exact ⟨(wrap64 (x5_1 + 1)), (by first | rfl | (simp; done) | (simp [*]; done)), H', ⟨by have := HK1.out; omega⟩, ⟨bl⟩⟩
      ·replace c8 := Bool.eq_false_iff.mpr c8
       subst c8
       have H1 : (some 1) = some r := by rw [if_neg (show ¬ (false = true) by decide)] at H; exact H
       clear H
       have H := H1
       clear H1
       obtain rfl := Option.some.inj H
       have p355 : 0 ≤ (x5_1 : Int) := za
       have q355 : x5_1 < (l1.length : Int) := za
       obtain ⟨ad355, e355, hx355_0, hx355_1, hx355_2⟩ := at_T27 HR1.out x5_1 p355 q355
       cases e355
       replace hx355_0 := (HB.out.cell (World.block_lt_of_cell? w _ hx355_0)).trans hx355_0
       replace hx355_1 := (HB.out.cell (World.block_lt_of_cell? w _ hx355_1)).trans hx355_1
       replace hx355_2 := (HB.out.cell (World.block_lt_of_cell? w _ hx355_2)).trans hx355_2
       replace p355 := eq_true p355
       replace q355 := eq_true q355
       go_wp2_with (first | ((with_reducible refine zf 60 rfl ?_); refine g1 (some 20) Try.func60 #[.int .i64 a0, .agg #[.int .i64 ((rd_T27 l1 x5_1).f0), .int .i64 ((rd_T27 l1 x5_1).f1), .int .i64 ((rd_T27 l1 x5_1).f2)]] ?_; (with_reducible refine (spec_l03Is.calls k1 a0 ((rd_T27 l1 x5_1).f0) ((rd_T27 l1 x5_1).f1) ((rd_T27 l1 x5_1).f2) false _ A7.out).mono ?_); rintro e w10 ⟨rfl, hb⟩; refine ⟨_, rfl, ?_⟩; replace HB := bs hb; (try clear hb)))
       go_ret
       exact ⟨er, bl⟩
     ·exact absurd H (by simp)
    ·have c5b0 := decide_eq_false c5
     clear c5
     obtain rfl := Option.some.inj H
     go_wp2
     go_ret
     exact ⟨er, bl⟩
 ·replace c4 := Bool.eq_false_iff.mpr c4
  subst c4
  have H1 : (some 1) = some r := by rw [if_neg (show ¬ (false = true) by decide)] at H; exact H
  clear H
  have H := H1
  clear H1
  obtain rfl := Option.some.inj H
  go_enter Try.func32, Try.ntmps32
  go_wp2_with (first | ((with_reducible refine zf 54 rfl ?_); refine g1 (some 7) Try.func54 #[.int .i64 a0] ?_; (with_reducible refine (spec_l01Prime.calls a0 false _ A3.out).mono ?_); rintro e w' ⟨rfl, ⟨nd, rfl⟩⟩; refine ⟨_, rfl, ?_⟩))
  go_ret
  exact ⟨er, bl⟩

end Go.Proofs.Ytkfodnlogflcpaa.PFnLattices

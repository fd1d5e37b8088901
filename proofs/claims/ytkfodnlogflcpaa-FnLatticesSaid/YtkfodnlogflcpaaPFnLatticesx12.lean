-- Printed by the kit's print and repaired by a program of this session.
import Derived.Test.YtkfodnlogflcpaaPFnLatticesx0
import Derived.Test.YtkfodnlogflcpaaPFnLatticesx1
import Derived.Test.YtkfodnlogflcpaaPFnLatticesx3
import Derived.Test.YtkfodnlogflcpaaPFnLatticesx4
import Derived.Test.YtkfodnlogflcpaaPFnLatticesx6
import Derived.Test.YtkfodnlogflcpaaPFnLatticesx8
import Derived.Test.YtkfodnlogflcpaaPFnLatticesx11
namespace Go.Proofs.Ytkfodnlogflcpaa.PFnLattices
open Go.RowKit Go.Proofs.YtkfodnlogflcpaaW.PrintWords Go.Proofs.YtkfodnlogflcpaaW.PrintLast Go.Proofs.YtkfodnlogflcpaaW.PrintMore
attribute [local go_sem] max2_int min2_int max_two min_two max_three min_three max_four min_four
set_option linter.unusedVariables false
set_option linter.unusedSimpArgs false

attribute [local go_sem high] eqA27
/-! ### spec_l03Primitive: function 59 -/
def spec_l03Primitive.f (k : Nat) (a0 : Int) (a1_0 : Int) (a1_1 : Int) (a1_2 : Int) : Option (Int × Int × Int × Int) := (spec_l03Vals.f k a0 a1_1).bind fun t359 => ((spec_l01Power.f k a0 (mn (mn a1_0 a1_2) t359)).bind fun t360 => (if t360 = 0 then (none) else (some (wrap64 (a1_0 - (mn (mn a1_0 a1_2) t359)), wrap64 (Int.tdiv a1_1 t360), wrap64 (a1_2 - (mn (mn a1_0 a1_2) t359)), mn (mn a1_0 a1_2) t359))))
def spec_l03Primitive.T1 : Bool × List (List Nat × List Nat) := (true, [([], []), ([0], [0]), ([], []), ([2], [2]), ([], []), ([], []), ([5], [5]), ([4, 6], [4, 6]), ([1, 3, 7], [1, 3, 7]), ([8, 7, 0, 1, 2, 3, 4, 5, 6, 7, 8], [8])])
def spec_l03Primitive.B1 : List Nat := [0, 1, 0, 4, 0, 0, 32, 112, 255, 511]
theorem spec_l03Primitive.tab1 : rtab .any (opsOf Try.f59 1) = spec_l03Primitive.T1 := by kernel_rfl
theorem spec_l03Primitive.bits1 : waitsOk spec_l03Primitive.T1.2 spec_l03Primitive.B1 = true := by kernel_rfl
def spec_l03Primitive.T2 : Bool × List (List Nat × List Nat) := (true, [([], []), ([0], [0]), ([], []), ([1, 2], [1, 2]), ([], []), ([4], [4]), ([], []), ([], []), ([6, 7], [6, 7]), ([5, 8], [5, 8]), ([], []), ([10], [10]), ([], []), ([11, 12], [11, 12]), ([3, 9, 13], [3, 9, 13]), ([], []), ([14, 8, 0, 1, 2, 3, 4, 5, 6, 7, 8, 9, 10, 11, 12, 13, 14], [14]), ([15, 16, 0, 1, 2, 3, 4, 5, 6, 7, 8, 9, 10, 11, 12, 13, 14, 15, 16], [15])])
def spec_l03Primitive.B2 : List Nat := [0, 1, 0, 7, 0, 16, 0, 0, 192, 496, 0, 1024, 0, 7168, 16383, 0, 32767, 131071]
theorem spec_l03Primitive.tab2 : rtab .any (opsOf Try.f59 2) = spec_l03Primitive.T2 := by kernel_rfl
theorem spec_l03Primitive.bits2 : waitsOk spec_l03Primitive.T2.2 spec_l03Primitive.B2 = true := by kernel_rfl
set_option maxHeartbeats 8000000 in
set_option maxRecDepth 100000 in
theorem spec_l03Primitive.calls (k : Nat) (a0 : Int) (a1_0 : Int) (a1_1 : Int) (a1_2 : Int) (r1 : Int) (r2 : Int) (r3 : Int) (r4 : Int) (w : World) (h : spec_l03Primitive.f k a0 a1_0 a1_1 a1_2 = some (r1, r2, r3, r4)) :
  Calls Try.prog 59 #[.int .i64 a0, .agg #[.int .i64 a1_0, .int .i64 a1_1, .int .i64 a1_2]] w fun e w' => e = .returned (.tuple #[.agg #[.int .i64 r1, .int .i64 r2, .int .i64 r3], .int .i64 r4]) ∧ Below w.heap.size w w' := by
 have hu27 := Try.underlying27
 have HB := Aside0.mk (Below.refl w.heap.size w)
 unfold spec_l03Primitive.f at h
 have H := h
 clear h
 replace H := zi H
 obtain ⟨t359, A3, H⟩ := H
 try dsimp only at H
 obtain ⟨ji4, hji4⟩ : ∃ j_ : Int, (mn a1_0 a1_2) = j_ := ⟨_, rfl⟩
 replace H : ((spec_l01Power.f k a0 (mn (ji4) t359)).bind fun t360 => (if t360 = 0 then (none) else (some (wrap64 (a1_0 - (mn (ji4) t359)), wrap64 (Int.tdiv a1_1 t360), wrap64 (a1_2 - (mn (ji4) t359)), mn (ji4) t359)))) = some (r1, r2, r3, r4) := by first | (rw [hji4] at H; exact H) | (simp only [hji4] at H ⊢; exact H)
 (try rw [hji4] at A3)
 have hji4_ : (if a1_2 < a1_0 then a1_2 else a1_0) = ji4 := hji4
 obtain ⟨ji5, hji5⟩ : ∃ j_ : Int, (mn (ji4) t359) = j_ := ⟨_, rfl⟩
 replace H : ((spec_l01Power.f k a0 (ji5)).bind fun t360 => (if t360 = 0 then (none) else (some (wrap64 (a1_0 - (ji5)), wrap64 (Int.tdiv a1_1 t360), wrap64 (a1_2 - (ji5)), ji5)))) = some (r1, r2, r3, r4) := by first | (rw [hji5] at H; exact H) | (simp only [hji5] at H ⊢; exact H)
 (try rw [hji5] at A3)
 have hji5_ : (if t359 < (ji4) then t359 else (ji4)) = ji5 := hji5
 replace H := zi H
 obtain ⟨t360, A6, H⟩ := H
 try dsimp only at H
 replace H := ii H
 rcases H with ⟨c7, H⟩ | ⟨c7, H⟩
 ·exact absurd H (by simp)
 ·obtain ⟨c7b0, c7b1⟩ := zy c7
  simp only [Option.some.injEq, Prod.mk.injEq] at H
  obtain ⟨rfl, rfl, rfl, rfl⟩ := H
  go_enter Try.func59, Try.ntmps59
  try go_wp2_with (first | ((with_reducible refine zg 3 rfl ?_); refine z3 3 27 a1_0 a1_1 a1_2 ?_; intro gb357 hg w8 BK357 hb; have GW357 := sg hg; replace HB := bs hb; clear hb hg) | ((with_reducible refine zg 4 rfl ?_); refine z3 4 27 0 0 0 ?_; intro gb358 hg w9 BK358 hb; have GW358 := sg hg; have NB357_358 := nl hg BK357; replace BK357 := bb BK357 hb; replace HB := bs hb; clear hb hg))
  replace BK357 := Aside0.mk (blk_drew BK357.out)
  replace BK358 := Aside0.mk (blk_drew BK358.out)
  replace HB := Aside0.mk (below_drew1 HB.out)
  refine sw 10 (fun w' => w'.cell? ⟨gb357, 0, none⟩ = some (.int .i64 a1_0) ∧ w'.cell? ⟨gb357, 1, none⟩ = some (.int .i64 a1_1) ∧ w'.cell? ⟨gb357, 2, none⟩ = some (.int .i64 a1_2)) spec_l03Primitive.tab1 spec_l03Primitive.bits1 (e3 BK357) (fun hHeld HT_ HW_ => ?_)
  generalize w9.drew = w10 at BK357 BK358 HB hHeld ⊢
  refine pu 0 (some 7) (tA 10 1) HT_ ?_
  refine pu 2 (some 9) (tA 10 5) HT_ ?_
  refine pu 4 (some 11) (tA 10 21) HT_ ?_
  refine pu 5 (some 12) (tA 10 53) HT_ ?_
  refine tk3 1 (some 8) (tA 10 55) HT_ HW_ hHeld ?_
  refine tk3 3 (some 10) (tA 10 63) HT_ HW_ hHeld ?_
  refine tk3 6 (some 13) (tA 10 127) HT_ HW_ hHeld ?_
  refine o1 7 (some 14) (tA 10 255) HT_ (fun K hK => ?_)
  refine gs Try.func76 #[.int .i64 a0, .int .i64 a1_1] ?_
  with_reducible refine (spec_l03Vals.calls k a0 a1_1 t359 _ A3.out).mono ?_
  rintro e w' ⟨rfl, ⟨nd, rfl⟩⟩
  refine ⟨_, rfl, ?_⟩
  refine hK.out _ _ (e3 BK357) (fun hHeld => ?_)
  clear hK K
  refine nm (some 14) ?_
  refine pu 8 (some 15) (tA 10 511) HT_ ?_
  refine pu 9 (some 6) (tA 10 1023) HT_ ?_
  refine done_ (done_of HT_.out (by kernel_rfl)) ?_
  try go_wp2
  (try (rw [drewN_self w10]; generalize hq_ : World.drewN w10 _ = w10; have n0_ : Aside0 (w10.heap[gb357]? = some (.cells #[.int .i64 a1_0, .int .i64 a1_1, .int .i64 a1_2] 27 (0, 0))) := ⟨by rw [← hq_]; exact (be BK357)⟩; have n1_ : Aside0 (w10.heap[gb358]? = some (.cells #[.int .i64 0, .int .i64 0, .int .i64 0] 27 (0, 0))) := ⟨by rw [← hq_]; exact (be BK358)⟩; have n2_ : Aside0 (Below w.heap.size w w10) := ⟨by rw [← hq_]; exact (bl)⟩; clear BK357 BK358 HB hq_; have BK357 := n0_; have BK358 := n1_; have HB := n2_; clear n0_ n1_ n2_))
  replace BK357 := Aside0.mk (blk_drew BK357.out)
  replace BK358 := Aside0.mk (blk_drew BK358.out)
  replace HB := Aside0.mk (below_drew1 HB.out)
  refine sw 18 (fun w' => w'.cell? ⟨gb357, 0, none⟩ = some (.int .i64 a1_0) ∧ w'.cell? ⟨gb357, 1, none⟩ = some (.int .i64 a1_1) ∧ w'.cell? ⟨gb357, 2, none⟩ = some (.int .i64 a1_2)) spec_l03Primitive.tab2 spec_l03Primitive.bits2 (e3 BK357) (fun hHeld HT_ HW_ => ?_)
  generalize w10.drew = w11 at BK357 BK358 HB hHeld ⊢
  refine pu 0 (some 16) (tA 18 1) HT_ ?_
  refine pu 2 (some 18) (tA 18 5) HT_ ?_
  refine pu 4 (some 20) (tA 18 21) HT_ ?_
  refine pu 6 (some 22) (tA 18 85) HT_ ?_
  refine pu 7 (some 23) (tA 18 213) HT_ ?_
  refine pu 10 (some 26) (tA 18 1237) HT_ ?_
  refine pu 12 (some 28) (tA 18 5333) HT_ ?_
  refine pu 15 (some 31) (tA 18 38101) HT_ ?_
  refine tk3 1 (some 17) (tA 18 38103) HT_ HW_ hHeld ?_
  refine pu 3 (some 19) (tA 18 38111) HT_ ?_
  refine tk3 5 (some 21) (tA 18 38143) HT_ HW_ hHeld ?_
  refine tk3 11 (some 27) (tA 18 40191) HT_ HW_ hHeld ?_
  refine pu 13 (some 29) (tA 18 48383) HT_ ?_
  refine o1 8 (some 24) (tA 18 48639) HT_ (fun K hK => ?_)
  refine goes_ Try.func34 (by kernel_rfl) rfl #[.int .i64 a0, .int .i64 ji5] (by rfl) rfl rfl (by (try simp only [List.map_toArray, List.map_cons, List.map_nil]); first | done | (simp only [hji5]; rfl) | rfl | (simp only [List.length_drop, List.length_take]; rfl)) ?_
  with_reducible refine (spec_l01Power.calls k a0 ji5 t360 _ A6.out).mono ?_
  rintro e w' ⟨rfl, ⟨nd, rfl⟩⟩
  refine ⟨_, rfl, ?_⟩
  refine hK.out _ _ (e3 BK357) (fun hHeld => ?_)
  clear hK K
  refine nm (some 24) ?_
  refine pu 9 (some 25) (tA 18 49151) HT_ ?_
  refine pu 14 (some 30) (tA 18 65535) HT_ ?_
  refine o1 16 none (tA 18 131071) HT_ (fun K hK => ?_)
  have hs12 : w11.cell? ⟨gb358, 0, none⟩ = some (.int .i64 0) := (blk_cell BK358.out 0).trans rfl
  have hfs12 := blk_frozen BK358.out 0
  obtain ⟨hns12_0, hms12_0⟩ := zn NB357_358
  have hs13 : w11.cell? ⟨gb358, 1, none⟩ = some (.int .i64 0) := (blk_cell BK358.out 1).trans rfl
  have hfs13 := blk_frozen BK358.out 1
  obtain ⟨hns13_0, hms13_0⟩ := zn NB357_358
  have hs14 : w11.cell? ⟨gb358, 2, none⟩ = some (.int .i64 0) := (blk_cell BK358.out 2).trans rfl
  have hfs14 := blk_frozen BK358.out 2
  obtain ⟨hns14_0, hms14_0⟩ := zn NB357_358
  refine skip_ (w1 := ?_) (by rfl) rfl ?_ ?_
  rotate_left
  ·go_simp
   rfl
  refine hK.out _ _ (m3 hHeld (fun e => cf gb358 NB357_358 (cf gb358 NB357_358 (cf gb358 NB357_358 e)))) (fun hHeld => ?_)
  clear hK K
  refine pu 17 (some 5) (tA 18 262143) HT_ ?_
  refine done_ (done_of HT_.out (by kernel_rfl)) ?_
  try go_wp2
  refine bodyPost_ret (results_ct rfl _ _ gb358 27 #[.int .i64 (wrap64 (a1_0 - (ji5))), .int .i64 (wrap64 (Int.tdiv a1_1 t360)), .int .i64 (wrap64 (a1_2 - (ji5)))] (0, 0) _ rfl (bp) Try.underlying27 rfl (by kernel_rfl)) rfl ?_
  exact ⟨by first | rfl | (simp [errW_none, errW_some] <;> rfl) | (simp only [← hji4, ← hji5]; first | rfl | (simp [errW_none, errW_some] <;> rfl)) | (simp [*, errW_none, errW_some] <;> rfl), bl⟩

/-! ### spec_PrimitiveOf: function 21 -/
def spec_PrimitiveOf.f (k : Nat) (a0 : Int) (a1_0 : Int) (a1_1 : Int) (a1_2 : Int) : Option (Int × Int × Int × Int × Int) := (spec_l03Code.f k a0 (([(⟨a1_0, a1_1, a1_2⟩ : S27)] : List (S27)))).bind fun t366 => (if t366 = 0 then ((spec_l03Primitive.f k a0 a1_0 a1_1 a1_2).bind fun bt367 => (some (bt367.1, bt367.2.1, bt367.2.2.1, bt367.2.2.2, 0))) else (some (0, 0, 0, 0, t366)))
set_option maxHeartbeats 8000000 in
set_option maxRecDepth 100000 in
theorem spec_PrimitiveOf.calls (k : Nat) (a0 : Int) (a1_0 : Int) (a1_1 : Int) (a1_2 : Int) (r1 : Int) (r2 : Int) (r3 : Int) (r4 : Int) (r5 : Int) (w : World) (h : spec_PrimitiveOf.f k a0 a1_0 a1_1 a1_2 = some (r1, r2, r3, r4, r5)) :
  Calls Try.prog 21 #[.int .i64 a0, .agg #[.int .i64 a1_0, .int .i64 a1_1, .int .i64 a1_2]] w fun e w' => e = .returned (.tuple #[.agg #[.int .i64 r1, .int .i64 r2, .int .i64 r3], .int .i64 r4, .int .i64 r5]) ∧ Below w.heap.size w w' := by
 have hu27 := Try.underlying27
 have HB := Aside0.mk (Below.refl w.heap.size w)
 unfold spec_PrimitiveOf.f at h
 have H := h
 clear h
 obtain ⟨y363, hy363⟩ : ∃ y_ : List (S27), y_ = (([(⟨a1_0, a1_1, a1_2⟩ : S27)] : List (S27))) := ⟨_, rfl⟩
 replace H : ((spec_l03Code.f k a0 y363).bind fun t366 => (if t366 = 0 then ((spec_l03Primitive.f k a0 a1_0 a1_1 a1_2).bind fun bt367 => (some (bt367.1, bt367.2.1, bt367.2.2.1, bt367.2.2.2, 0))) else (some (0, 0, 0, 0, t366)))) = some (r1, r2, r3, r4, r5) := by first | exact hy363 ▸ H | exact H
 have Ny363 := Aside0.mk hy363
 clear hy363
 replace H := zi H
 obtain ⟨t366, A3, H⟩ := H
 try dsimp only at H
 replace H := ii H
 rcases H with ⟨c4, H⟩ | ⟨c4, H⟩
 ·obtain ⟨c4b0, c4b1⟩ := zz c4
  clear c4
  replace H := zi H
  obtain ⟨⟨t367, t368, t369, t370⟩, A5, H⟩ := H
  try dsimp only at H
  simp only [Option.some.injEq, Prod.mk.injEq] at H
  obtain ⟨rfl, rfl, rfl, rfl, rfl⟩ := H
  go_enter Try.func21, Try.ntmps21
  go_wp2_with (first | ((with_reducible refine zg 3 rfl ?_); refine z3 3 27 a1_0 a1_1 a1_2 ?_; intro gb361 hg w6 BK361 hb; have GW361 := sg hg; replace HB := bs hb; clear hb hg) | ((with_reducible refine zg 4 rfl ?_); refine z3 4 27 0 0 0 ?_; intro gb362 hg w7 BK362 hb; have GW362 := sg hg; have NB361_362 := nl hg BK361; replace BK361 := bb BK361 hb; replace HB := bs hb; clear hb hg; obtain ⟨hnb8, hnc8⟩ := zn NB361_362; obtain ⟨hcz9_0, hcz9_1, hcz9_2, hfz9_0, hfz9_1, hfz9_2⟩ := cq3 BK361) | ((with_reducible refine zg 12 rfl ?_); refine Kd.R_lit k27 _ 27 ?hg (N := 12) ?hd (xs := ([(⟨a1_0, a1_1, a1_2⟩ : S27)] : List (S27))) (inner := [.int .i64 a1_0, .int .i64 a1_1, .int .i64 a1_2]) (ok := fun _ => True) (okp := fun _ => True) ?hr ?hp (fun _ hk => hk) trivial (Below.refl _ _) (Nat.le_refl _) (by simp) ?_; (case hd => rfl); (case hg => rfl); (case hr => first | (go_simp; done) | (go_simp; rfl)); (case hp => exact (Reps.c3 (show Kd.M k27 _ _ _ (⟨a1_0, a1_1, a1_2⟩ : S27) [.int .i64 a1_0, .int .i64 a1_1, .int .i64 a1_2] from (k27_mkM _ _ _ (⟨a1_0, a1_1, a1_2⟩ : S27) )) (Reps.none _ _))); intro v364 w10 ho11 hb hg_ hnew_; clear hg_ hnew_; (first | rw [← Ny363.out] at ho11 | (simp only [Int.reduceToNat] at ho11; rw [← Ny363.out] at ho11)); have HO365 := Aside0.mk (Kd.R_lower (Kd.R_newB (Kd.R_newB ho11 (g := gb361) (o := .cells #[.int .i64 a1_0, .int .i64 a1_1, .int .i64 a1_2] 27 (0, 0)) (be BK361)) (g := gb362) (o := .cells #[.int .i64 0, .int .i64 0, .int .i64 0] 27 (0, 0)) (be BK362)) (below_size (bl))); replace BK361 := bb BK361 hb; replace BK362 := bb BK362 hb; replace HB := bs hb; clear hb ho11; obtain ⟨Ao12, co12, eo12⟩ := Kd.R_slice HO365.out; subst eo12) | ((with_reducible refine zf 32 rfl ?_); refine g1 (some 13) Try.func32 #[.int .i64 a0, .slice Ao12 y363.length co12] ?_; (with_reducible refine (spec_l03Code.calls k a0 _ _ y363 t366 _ ?side1 ?side2 A3.out).mono ?_); (case side1 => repeat (first | exact (Kd.R_reads' HO365.out).2.2 | (with_reducible refine Kd.C_alloc ?_ _) | (with_reducible refine Kd.C_drewN ?_ _) | (with_reducible refine Kd.C_drew ?_))); (case side2 => exact (Kd.R_reads' HO365.out).2.1); rintro e w13 ⟨rfl, hb⟩; refine ⟨_, rfl, ?_⟩; replace HO365 := Aside0.mk (Kd.R_below (by (with_reducible repeat (first | apply Kd.R_alloc | apply Kd.R_drewN | apply Kd.R_drew)); exact HO365.out) hb); replace BK361 := bb BK361 hb; replace BK362 := bb BK362 hb; replace HB := bs hb; (try clear hb); obtain ⟨hcz14_0, hcz14_1, hcz14_2, hfz14_0, hfz14_1, hfz14_2⟩ := cq3 BK361) | ((with_reducible refine zf 59 rfl ?_); refine g1 (some 21) Try.func59 #[.int .i64 a0, .agg #[.int .i64 a1_0, .int .i64 a1_1, .int .i64 a1_2]] ?_; (with_reducible refine (spec_l03Primitive.calls k a0 a1_0 a1_1 a1_2 t367 t368 t369 t370 _ A5.out).mono ?_); rintro e w15 ⟨rfl, hb⟩; refine ⟨_, rfl, ?_⟩; replace HO365 := Aside0.mk (Kd.R_below (by (with_reducible repeat (first | apply Kd.R_alloc | apply Kd.R_drewN | apply Kd.R_drew)); exact HO365.out) hb); replace BK361 := bb BK361 hb; replace BK362 := bb BK362 hb; replace HB := bs hb; (try clear hb)) | ((with_reducible refine zg 8 rfl ?_); refine z3 8 27 0 0 0 ?_; intro gb371 hg w16 BK371 hb; have GW371 := sg hg; have NB361_371 := nl hg BK361; have NB362_371 := nl hg BK362; replace HO365 := Aside0.mk (Kd.R_below (Kd.R_elderB (by (with_reducible repeat (first | apply Kd.R_alloc | apply Kd.R_drewN | apply Kd.R_drew)); exact HO365.out) gb371 (Nat.le_of_eq hg.symm)) hb); replace BK361 := bb BK361 hb; replace BK362 := bb BK362 hb; replace HB := bs hb; clear hb hg; obtain ⟨hnb17, hnc17⟩ := zm NB361_371; obtain ⟨hnb18, hnc18⟩ := zm NB362_371; obtain ⟨hcz19_0, hcz19_1, hcz19_2, hfz19_0, hfz19_1, hfz19_2⟩ := cq3 BK371; obtain ⟨hcz20_0, hcz20_1, hcz20_2, hfz20_0, hfz20_1, hfz20_2⟩ := cq3 BK362))
  refine bodyPost_ret (results_ctt rfl _ _ gb362 27 #[.int .i64 t367, .int .i64 t368, .int .i64 t369] (0, 0) _ rfl (bp) Try.underlying27 rfl (by kernel_rfl)) rfl ?_
  exact ⟨er, bl⟩
 ·obtain ⟨c4b0, c4b1⟩ := zy c4
  simp only [Option.some.injEq, Prod.mk.injEq] at H
  obtain ⟨rfl, rfl, rfl, rfl, rfl⟩ := H
  go_enter Try.func21, Try.ntmps21
  go_wp2_with (first | ((with_reducible refine zg 3 rfl ?_); refine z3 3 27 a1_0 a1_1 a1_2 ?_; intro gb361 hg w21 BK361 hb; have GW361 := sg hg; replace HB := bs hb; clear hb hg) | ((with_reducible refine zg 4 rfl ?_); refine z3 4 27 0 0 0 ?_; intro gb362 hg w22 BK362 hb; have GW362 := sg hg; have NB361_362 := nl hg BK361; replace BK361 := bb BK361 hb; replace HB := bs hb; clear hb hg; obtain ⟨hnb23, hnc23⟩ := zn NB361_362; obtain ⟨hcz24_0, hcz24_1, hcz24_2, hfz24_0, hfz24_1, hfz24_2⟩ := cq3 BK361) | ((with_reducible refine zg 12 rfl ?_); refine Kd.R_lit k27 _ 27 ?hg (N := 12) ?hd (xs := ([(⟨a1_0, a1_1, a1_2⟩ : S27)] : List (S27))) (inner := [.int .i64 a1_0, .int .i64 a1_1, .int .i64 a1_2]) (ok := fun _ => True) (okp := fun _ => True) ?hr ?hp (fun _ hk => hk) trivial (Below.refl _ _) (Nat.le_refl _) (by simp) ?_; (case hd => rfl); (case hg => rfl); (case hr => first | (go_simp; done) | (go_simp; rfl)); (case hp => exact (Reps.c3 (show Kd.M k27 _ _ _ (⟨a1_0, a1_1, a1_2⟩ : S27) [.int .i64 a1_0, .int .i64 a1_1, .int .i64 a1_2] from (k27_mkM _ _ _ (⟨a1_0, a1_1, a1_2⟩ : S27) )) (Reps.none _ _))); intro v364 w25 ho26 hb hg_ hnew_; clear hg_ hnew_; (first | rw [← Ny363.out] at ho26 | (simp only [Int.reduceToNat] at ho26; rw [← Ny363.out] at ho26)); have HO365 := Aside0.mk (Kd.R_lower (Kd.R_newB (Kd.R_newB ho26 (g := gb361) (o := .cells #[.int .i64 a1_0, .int .i64 a1_1, .int .i64 a1_2] 27 (0, 0)) (be BK361)) (g := gb362) (o := .cells #[.int .i64 0, .int .i64 0, .int .i64 0] 27 (0, 0)) (be BK362)) (below_size (bl))); replace BK361 := bb BK361 hb; replace BK362 := bb BK362 hb; replace HB := bs hb; clear hb ho26; obtain ⟨Ao27, co27, eo27⟩ := Kd.R_slice HO365.out; subst eo27) | ((with_reducible refine zf 32 rfl ?_); refine g1 (some 13) Try.func32 #[.int .i64 a0, .slice Ao27 y363.length co27] ?_; (with_reducible refine (spec_l03Code.calls k a0 _ _ y363 t366 _ ?side1 ?side2 A3.out).mono ?_); (case side1 => repeat (first | exact (Kd.R_reads' HO365.out).2.2 | (with_reducible refine Kd.C_alloc ?_ _) | (with_reducible refine Kd.C_drewN ?_ _) | (with_reducible refine Kd.C_drew ?_))); (case side2 => exact (Kd.R_reads' HO365.out).2.1); rintro e w28 ⟨rfl, hb⟩; refine ⟨_, rfl, ?_⟩; replace HO365 := Aside0.mk (Kd.R_below (by (with_reducible repeat (first | apply Kd.R_alloc | apply Kd.R_drewN | apply Kd.R_drew)); exact HO365.out) hb); replace BK361 := bb BK361 hb; replace BK362 := bb BK362 hb; replace HB := bs hb; (try clear hb); obtain ⟨hcz29_0, hcz29_1, hcz29_2, hfz29_0, hfz29_1, hfz29_2⟩ := cq3 BK362))
  refine bodyPost_ret (results_ctt rfl _ _ gb362 27 #[.int .i64 0, .int .i64 0, .int .i64 0] (0, 0) _ rfl (bp) Try.underlying27 rfl (by kernel_rfl)) rfl ?_
  exact ⟨er, bl⟩

/-! ### spec_IsLattice: function 22 -/
def spec_IsLattice.f (k : Nat) (a0 : Int) (a1_0 : Int) (a1_1 : Int) (a1_2 : Int) : Option (Bool) := (spec_l03Is.f k a0 a1_0 a1_1 a1_2).bind fun t373 => (some t373)
set_option maxHeartbeats 8000000 in
set_option maxRecDepth 100000 in
theorem spec_IsLattice.calls (k : Nat) (a0 : Int) (a1_0 : Int) (a1_1 : Int) (a1_2 : Int) (r : Bool) (w : World) (h : spec_IsLattice.f k a0 a1_0 a1_1 a1_2 = some r) :
  Calls Try.prog 22 #[.int .i64 a0, .agg #[.int .i64 a1_0, .int .i64 a1_1, .int .i64 a1_2]] w fun e w' => e = .returned (.bool r) ∧ Below w.heap.size w w' := by
 have hu27 := Try.underlying27
 have HB := Aside0.mk (Below.refl w.heap.size w)
 unfold spec_IsLattice.f at h
 have H := h
 clear h
 replace H := zi H
 obtain ⟨t373, A3, H⟩ := H
 try dsimp only at H
 obtain rfl := Option.some.inj H
 go_enter Try.func22, Try.ntmps22
 go_wp2_with (first | ((with_reducible refine zg 3 rfl ?_); refine z3 3 27 a1_0 a1_1 a1_2 ?_; intro gb372 hg w4 BK372 hb; have GW372 := sg hg; replace HB := bs hb; clear hb hg; obtain ⟨hcz5_0, hcz5_1, hcz5_2, hfz5_0, hfz5_1, hfz5_2⟩ := cq3 BK372) | ((with_reducible refine zf 60 rfl ?_); refine g1 (some 7) Try.func60 #[.int .i64 a0, .agg #[.int .i64 a1_0, .int .i64 a1_1, .int .i64 a1_2]] ?_; (with_reducible refine (spec_l03Is.calls k a0 a1_0 a1_1 a1_2 t373 _ A3.out).mono ?_); rintro e w6 ⟨rfl, hb⟩; refine ⟨_, rfl, ?_⟩; replace BK372 := bb BK372 hb; replace HB := bs hb; (try clear hb)))
 go_ret
 exact ⟨er, bl⟩

/-! ### impl_areLattices: function 61 -/
def impl_areLattices.l0 : Nat → Int → List (S27) → Int → Int → Option (Bool)
 | 0, _, _, _, _ => none
 | k + 1, x0, x7, x8, x9 => if x9 < x8 then (if 0 ≤ x9 then (if x9 < (x7.length : Int) then ((impl_IsLattice.f k x0 ((rd_T27 x7 x9).f0) ((rd_T27 x7 x9).f1) ((rd_T27 x7 x9).f2)).bind fun t376 => (if t376 = true then (impl_areLattices.l0 k x0 x7 x8 (wrap64 (x9 + 1))) else (some false))) else (none)) else (none)) else (some true)
def impl_areLattices.f (k : Nat) (a0 : Int) (l1 : List (S27)) : Option (Bool) := impl_areLattices.l0 k a0 l1 (l1.length : Int) 0
set_option maxHeartbeats 8000000 in
set_option maxRecDepth 100000 in
theorem impl_areLattices.calls (k : Nat) (a0 : Int) (A1 : Option Addr) (c1 : Nat) (l1 : List (S27)) (r : Bool) (w : World) (hr1 : Kd.C k27 w A1 l1.length l1) (hc1 : l1.length ≤ c1) (h : impl_areLattices.f k a0 l1 = some r) :
  Calls Try.prog 61 #[.int .i64 a0, .slice A1 l1.length c1] w fun e w' => e = .returned (.bool r) ∧ Below w.heap.size w w' := by
 have hu27 := Try.underlying27
 have HR1 := Aside0.mk hr1
 have HC1 := Aside0.mk hc1
 clear hr1 hc1
 have HB := Aside0.mk (Below.refl w.heap.size w)
 unfold impl_areLattices.f at h
 have H := h
 clear h
 have H' := Aside0.mk H
 clear H
 go_enter Try.func61, Try.ntmps61
 go_wp2
 go_loopg [9] k (fun kq v9 w' => ∃ (x9_1 : Int), v9 = .int .i64 x9_1 ∧ Aside0 (impl_areLattices.l0 kq a0 l1 (l1.length : Int) x9_1 = some r) ∧ Aside0 (kq ≤ k) ∧ Aside0 (Below w.heap.size w w'))
 case atStart => exact ⟨(0), (by first | rfl | (simp; done) | (simp [*]; done)), H', ⟨Nat.le_refl _⟩, ⟨bl⟩⟩
 case round =>
  clear H'
  obtain ⟨x9_1, rfl, HA, HK1, HB⟩ := hrel
  cases gk with
  | zero => exact absurd HA.out (by simp [impl_areLattices.l0])
  | succ k1 =>
   have H := HA.out
   clear HA
   simp only [impl_areLattices.l0] at H
   replace H := ii H
   rcases H with ⟨c3, H⟩ | ⟨c3, H⟩
   ·have c3b0 := decide_eq_true c3
    clear c3
    replace H := ii H
    rcases H with ⟨c4, H⟩ | ⟨c4, H⟩
    ·have c4b0 := decide_eq_true c4
     clear c4
     replace H := ii H
     rcases H with ⟨c5, H⟩ | ⟨c5, H⟩
     ·have c5b0 := decide_eq_true c5
      clear c5
      replace H := zi H
      obtain ⟨t376, A6, H⟩ := H
      try dsimp only at H
      by_cases c7 : t376 = true
      ·subst c7
       rw [if_pos rfl] at H
       have H' := Aside0.mk H
       clear H
       have p374 : 0 ≤ (x9_1 : Int) := za
       have q374 : x9_1 < (l1.length : Int) := za
       obtain ⟨ad374, e374, hx374_0, hx374_1, hx374_2⟩ := at_T27 HR1.out x9_1 p374 q374
       cases e374
       replace hx374_0 := (HB.out.cell (World.block_lt_of_cell? w _ hx374_0)).trans hx374_0
       replace hx374_1 := (HB.out.cell (World.block_lt_of_cell? w _ hx374_1)).trans hx374_1
       replace hx374_2 := (HB.out.cell (World.block_lt_of_cell? w _ hx374_2)).trans hx374_2
       replace p374 := eq_true p374
       replace q374 := eq_true q374
       go_wp2_with (first | ((with_reducible refine zg 6 rfl ?_); refine z3 6 27 0 0 0 ?_; intro gb375 hg w8 BK375 hb; have GW375 := sg hg; replace HB := bs hb; clear hb hg; obtain ⟨hcz9_0, hcz9_1, hcz9_2, hfz9_0, hfz9_1, hfz9_2⟩ := cq3 BK375) | ((with_reducible refine zf 18 rfl ?_); refine g1 (some 15) Try.func18 #[.int .i64 a0, .agg #[.int .i64 ((rd_T27 l1 x9_1).f0), .int .i64 ((rd_T27 l1 x9_1).f1), .int .i64 ((rd_T27 l1 x9_1).f2)]] ?_; (with_reducible refine (impl_IsLattice.calls k1 a0 ((rd_T27 l1 x9_1).f0) ((rd_T27 l1 x9_1).f1) ((rd_T27 l1 x9_1).f2) true _ A6.out).mono ?_); rintro e w10 ⟨rfl, hb⟩; refine ⟨_, rfl, ?_⟩; replace BK375 := Aside0.mk (blk_below (g := gb375) (o := .cells #[.int .i64 ((rd_T27 l1 x9_1).f0), .int .i64 ((rd_T27 l1 x9_1).f1), .int .i64 ((rd_T27 l1 x9_1).f2)] 27 (0, 0)) (bp) hb); replace HB := bs hb; (try clear hb)))
       go_roundg k1
       case measure => have := HK1.out; omega
       case rel => exact ⟨(wrap64 (x9_1 + 1)), (by first | rfl | (simp; done) | (simp [*]; done)), H', ⟨by have := HK1.out; omega⟩, ⟨bl⟩⟩
      ·replace c7 := Bool.eq_false_iff.mpr c7
       subst c7
       have H1 : (some false) = some r := by rw [if_neg (show ¬ (false = true) by decide)] at H; exact H
       clear H
       have H := H1
       clear H1
       obtain rfl := Option.some.inj H
       have p374 : 0 ≤ (x9_1 : Int) := za
       have q374 : x9_1 < (l1.length : Int) := za
       obtain ⟨ad374, e374, hx374_0, hx374_1, hx374_2⟩ := at_T27 HR1.out x9_1 p374 q374
       cases e374
       replace hx374_0 := (HB.out.cell (World.block_lt_of_cell? w _ hx374_0)).trans hx374_0
       replace hx374_1 := (HB.out.cell (World.block_lt_of_cell? w _ hx374_1)).trans hx374_1
       replace hx374_2 := (HB.out.cell (World.block_lt_of_cell? w _ hx374_2)).trans hx374_2
       replace p374 := eq_true p374
       replace q374 := eq_true q374
       go_wp2_with (first | ((with_reducible refine zg 6 rfl ?_); refine z3 6 27 0 0 0 ?_; intro gb375 hg w11 BK375 hb; have GW375 := sg hg; replace HB := bs hb; clear hb hg; obtain ⟨hcz12_0, hcz12_1, hcz12_2, hfz12_0, hfz12_1, hfz12_2⟩ := cq3 BK375) | ((with_reducible refine zf 18 rfl ?_); refine g1 (some 15) Try.func18 #[.int .i64 a0, .agg #[.int .i64 ((rd_T27 l1 x9_1).f0), .int .i64 ((rd_T27 l1 x9_1).f1), .int .i64 ((rd_T27 l1 x9_1).f2)]] ?_; (with_reducible refine (impl_IsLattice.calls k1 a0 ((rd_T27 l1 x9_1).f0) ((rd_T27 l1 x9_1).f1) ((rd_T27 l1 x9_1).f2) false _ A6.out).mono ?_); rintro e w13 ⟨rfl, hb⟩; refine ⟨_, rfl, ?_⟩; replace BK375 := Aside0.mk (blk_below (g := gb375) (o := .cells #[.int .i64 ((rd_T27 l1 x9_1).f0), .int .i64 ((rd_T27 l1 x9_1).f1), .int .i64 ((rd_T27 l1 x9_1).f2)] 27 (0, 0)) (bp) hb); replace HB := bs hb; (try clear hb)))
       go_ret
       exact ⟨er, bl⟩
     ·exact absurd H (by simp)
    ·exact absurd H (by simp)
   ·have c3b0 := decide_eq_false c3
    clear c3
    obtain rfl := Option.some.inj H
    go_wp2
    go_ret
    exact ⟨er, bl⟩

/-! ### impl_AreOneClass: function 23 -/
def impl_AreOneClass.f (k : Nat) (a0 : Int) (a1_0 : Int) (a1_1 : Int) (a1_2 : Int) (a2_0 : Int) (a2_1 : Int) (a2_2 : Int) : Option (Bool × Int) := (impl_areLattices.f k a0 (([(⟨a1_0, a1_1, a1_2⟩ : S27), (⟨a2_0, a2_1, a2_2⟩ : S27)] : List (S27)))).bind fun t382 => (if t382 = true then ((impl_primitive.f k a0 a1_0 a1_1 a1_2).bind fun bt383 => ((impl_primitive.f k a0 a2_0 a2_1 a2_2).bind fun bt388 => (some ((bt383.1 == bt388.1 && (bt383.2.1 == bt388.2.1 && (bt383.2.2.1 == bt388.2.2.1))), 0)))) else (some (false, 1)))
set_option maxHeartbeats 8000000 in
set_option maxRecDepth 100000 in
theorem impl_AreOneClass.calls (k : Nat) (a0 : Int) (a1_0 : Int) (a1_1 : Int) (a1_2 : Int) (a2_0 : Int) (a2_1 : Int) (a2_2 : Int) (r1 : Bool) (r2 : Int) (w : World) (h : impl_AreOneClass.f k a0 a1_0 a1_1 a1_2 a2_0 a2_1 a2_2 = some (r1, r2)) :
  Calls Try.prog 23 #[.int .i64 a0, .agg #[.int .i64 a1_0, .int .i64 a1_1, .int .i64 a1_2], .agg #[.int .i64 a2_0, .int .i64 a2_1, .int .i64 a2_2]] w fun e w' => e = .returned (.tuple #[.bool r1, .int .i64 r2]) ∧ Below w.heap.size w w' := by
 have hu27 := Try.underlying27
 have HB := Aside0.mk (Below.refl w.heap.size w)
 unfold impl_AreOneClass.f at h
 have H := h
 clear h
 obtain ⟨y379, hy379⟩ : ∃ y_ : List (S27), y_ = (([(⟨a1_0, a1_1, a1_2⟩ : S27), (⟨a2_0, a2_1, a2_2⟩ : S27)] : List (S27))) := ⟨_, rfl⟩
 replace H : ((impl_areLattices.f k a0 y379).bind fun t382 => (if t382 = true then ((impl_primitive.f k a0 a1_0 a1_1 a1_2).bind fun bt383 => ((impl_primitive.f k a0 a2_0 a2_1 a2_2).bind fun bt388 => (some ((bt383.1 == bt388.1 && (bt383.2.1 == bt388.2.1 && (bt383.2.2.1 == bt388.2.2.1))), 0)))) else (some (false, 1)))) = some (r1, r2) := by first | exact hy379 ▸ H | exact H
 have Ny379 := Aside0.mk hy379
 clear hy379
 replace H := zi H
 obtain ⟨t382, A4, H⟩ := H
 try dsimp only at H
 by_cases c5 : t382 = true
 ·subst c5
  rw [if_pos rfl] at H
  replace H := zi H
  obtain ⟨⟨t383, t384, t385, t386⟩, A6, H⟩ := H
  try dsimp only at H
  replace H := zi H
  obtain ⟨⟨t388, t389, t390, t391⟩, A7, H⟩ := H
  try dsimp only at H
  simp only [Option.some.injEq, Prod.mk.injEq] at H
  obtain ⟨rfl, rfl⟩ := H
  go_enter Try.func23, Try.ntmps23
  go_wp2_with (first | ((with_reducible refine zg 4 rfl ?_); refine z3 4 27 a1_0 a1_1 a1_2 ?_; intro gb377 hg w8 BK377 hb; have GW377 := sg hg; replace HB := bs hb; clear hb hg) | ((with_reducible refine zg 5 rfl ?_); refine z3 5 27 a2_0 a2_1 a2_2 ?_; intro gb378 hg w9 BK378 hb; have GW378 := sg hg; have NB377_378 := nl hg BK377; replace BK377 := bb BK377 hb; replace HB := bs hb; clear hb hg; obtain ⟨hnb10, hnc10⟩ := zn NB377_378; obtain ⟨hcz11_0, hcz11_1, hcz11_2, hfz11_0, hfz11_1, hfz11_2⟩ := cq3 BK377; obtain ⟨hcz12_0, hcz12_1, hcz12_2, hfz12_0, hfz12_1, hfz12_2⟩ := cq3 BK378) | ((with_reducible refine zg 15 rfl ?_); refine Kd.R_lit k27 _ 27 ?hg (N := 15) ?hd (xs := ([(⟨a1_0, a1_1, a1_2⟩ : S27), (⟨a2_0, a2_1, a2_2⟩ : S27)] : List (S27))) (inner := [.int .i64 a1_0, .int .i64 a1_1, .int .i64 a1_2, .int .i64 a2_0, .int .i64 a2_1, .int .i64 a2_2]) (ok := fun _ => True) (okp := fun _ => True) ?hr ?hp (fun _ hk => hk) trivial (Below.refl _ _) (Nat.le_refl _) (by simp) ?_; (case hd => rfl); (case hg => rfl); (case hr => first | (go_simp; done) | (go_simp; rfl)); (case hp => exact (Reps.c3 (show Kd.M k27 _ _ _ (⟨a1_0, a1_1, a1_2⟩ : S27) [.int .i64 a1_0, .int .i64 a1_1, .int .i64 a1_2] from (k27_mkM _ _ _ (⟨a1_0, a1_1, a1_2⟩ : S27) )) (Reps.c3 (show Kd.M k27 _ _ _ (⟨a2_0, a2_1, a2_2⟩ : S27) [.int .i64 a2_0, .int .i64 a2_1, .int .i64 a2_2] from (k27_mkM _ _ _ (⟨a2_0, a2_1, a2_2⟩ : S27) )) (Reps.none _ _)))); intro v380 w13 ho14 hb hg_ hnew_; clear hg_ hnew_; (first | rw [← Ny379.out] at ho14 | (simp only [Int.reduceToNat] at ho14; rw [← Ny379.out] at ho14)); have HO381 := Aside0.mk (Kd.R_lower (Kd.R_newB (Kd.R_newB ho14 (g := gb377) (o := .cells #[.int .i64 a1_0, .int .i64 a1_1, .int .i64 a1_2] 27 (0, 0)) (be BK377)) (g := gb378) (o := .cells #[.int .i64 a2_0, .int .i64 a2_1, .int .i64 a2_2] 27 (0, 0)) (be BK378)) (below_size (bl))); replace BK377 := bb BK377 hb; replace BK378 := bb BK378 hb; replace HB := bs hb; clear hb ho14; obtain ⟨Ao15, co15, eo15⟩ := Kd.R_slice HO381.out; subst eo15) | ((with_reducible refine zf 61 rfl ?_); refine g1 (some 16) Try.func61 #[.int .i64 a0, .slice Ao15 y379.length co15] ?_; (with_reducible refine (impl_areLattices.calls k a0 _ _ y379 true _ ?side1 ?side2 A4.out).mono ?_); (case side1 => repeat (first | exact (Kd.R_reads' HO381.out).2.2 | (with_reducible refine Kd.C_alloc ?_ _) | (with_reducible refine Kd.C_drewN ?_ _) | (with_reducible refine Kd.C_drew ?_))); (case side2 => exact (Kd.R_reads' HO381.out).2.1); rintro e w16 ⟨rfl, hb⟩; refine ⟨_, rfl, ?_⟩; replace HO381 := Aside0.mk (Kd.R_below (by (with_reducible repeat (first | apply Kd.R_alloc | apply Kd.R_drewN | apply Kd.R_drew)); exact HO381.out) hb); replace BK377 := bb BK377 hb; replace BK378 := bb BK378 hb; replace HB := bs hb; (try clear hb); obtain ⟨hcz17_0, hcz17_1, hcz17_2, hfz17_0, hfz17_1, hfz17_2⟩ := cq3 BK377) | ((with_reducible refine zf 58 rfl ?_); refine g1 (some 21) Try.func58 #[.int .i64 a0, .agg #[.int .i64 a1_0, .int .i64 a1_1, .int .i64 a1_2]] ?_; (with_reducible refine (impl_primitive.calls k a0 a1_0 a1_1 a1_2 t383 t384 t385 t386 _ A6.out).mono ?_); rintro e w18 ⟨rfl, hb⟩; refine ⟨_, rfl, ?_⟩; replace HO381 := Aside0.mk (Kd.R_below (by (with_reducible repeat (first | apply Kd.R_alloc | apply Kd.R_drewN | apply Kd.R_drew)); exact HO381.out) hb); replace BK377 := bb BK377 hb; replace BK378 := bb BK378 hb; replace HB := bs hb; (try clear hb)) | ((with_reducible refine zg 8 rfl ?_); refine z3 8 27 0 0 0 ?_; intro gb387 hg w19 BK387 hb; have GW387 := sg hg; have NB377_387 := nl hg BK377; have NB378_387 := nl hg BK378; replace HO381 := Aside0.mk (Kd.R_below (Kd.R_elderB (by (with_reducible repeat (first | apply Kd.R_alloc | apply Kd.R_drewN | apply Kd.R_drew)); exact HO381.out) gb387 (Nat.le_of_eq hg.symm)) hb); replace BK377 := bb BK377 hb; replace BK378 := bb BK378 hb; replace HB := bs hb; clear hb hg; obtain ⟨hnb20, hnc20⟩ := zm NB377_387; obtain ⟨hnb21, hnc21⟩ := zm NB378_387; obtain ⟨hcz22_0, hcz22_1, hcz22_2, hfz22_0, hfz22_1, hfz22_2⟩ := cq3 BK387; obtain ⟨hcz23_0, hcz23_1, hcz23_2, hfz23_0, hfz23_1, hfz23_2⟩ := cq3 BK378) | ((with_reducible refine zf 58 rfl ?_); refine g1 (some 27) Try.func58 #[.int .i64 a0, .agg #[.int .i64 a2_0, .int .i64 a2_1, .int .i64 a2_2]] ?_; (with_reducible refine (impl_primitive.calls k a0 a2_0 a2_1 a2_2 t388 t389 t390 t391 _ A7.out).mono ?_); rintro e w24 ⟨rfl, hb⟩; refine ⟨_, rfl, ?_⟩; replace HO381 := Aside0.mk (Kd.R_below (by (with_reducible repeat (first | apply Kd.R_alloc | apply Kd.R_drewN | apply Kd.R_drew)); exact (Kd.R_mono (Kd.R_far (p := ⟨gb387, 2, none⟩) (Kd.R_far (p := ⟨gb387, 1, none⟩) (Kd.R_far (p := ⟨gb387, 0, none⟩) (Kd.R_mono HO381.out (fun k_ hk => (⟨hk, hk.2⟩ : _ ∧ k_ ≠ gb387))) (fun _ hk => hk.2) (.int .i64 t383)) (fun _ hk => hk.2) (.int .i64 t384)) (fun _ hk => hk.2) (.int .i64 t385)) (fun _ h_ => h_.1))) hb); replace BK377 := Aside0.mk (blk_below (g := gb377) (o := .cells #[.int .i64 a1_0, .int .i64 a1_1, .int .i64 a1_2] 27 (0, 0)) (bp) hb); replace BK378 := Aside0.mk (blk_below (g := gb378) (o := .cells #[.int .i64 a2_0, .int .i64 a2_1, .int .i64 a2_2] 27 (0, 0)) (bp) hb); replace BK387 := Aside0.mk (blk_below (g := gb387) (o := .cells #[.int .i64 t383, .int .i64 t384, .int .i64 t385] 27 (0, 0)) (bp) hb); replace HB := bs hb; (try clear hb)) | ((with_reducible refine zg 10 rfl ?_); refine z3 10 27 0 0 0 ?_; intro gb392 hg w25 BK392 hb; have GW392 := sg hg; have NB377_392 := nl hg BK377; have NB378_392 := nl hg BK378; have NB387_392 := nl hg BK387; replace HO381 := Aside0.mk (Kd.R_below (Kd.R_elderB (by (with_reducible repeat (first | apply Kd.R_alloc | apply Kd.R_drewN | apply Kd.R_drew)); exact HO381.out) gb392 (Nat.le_of_eq hg.symm)) hb); replace BK377 := bb BK377 hb; replace BK378 := bb BK378 hb; replace BK387 := bb BK387 hb; replace HB := bs hb; clear hb hg; obtain ⟨hnb26, hnc26⟩ := zm NB377_392; obtain ⟨hnb27, hnc27⟩ := zm NB378_392; obtain ⟨hnb28, hnc28⟩ := zm NB387_392; obtain ⟨hcz29_0, hcz29_1, hcz29_2, hfz29_0, hfz29_1, hfz29_2⟩ := cq3 BK392; obtain ⟨hcz30_0, hcz30_1, hcz30_2, hfz30_0, hfz30_1, hfz30_2⟩ := cq3 BK387))
  go_ret2
  exact ⟨er, bl⟩
 ·replace c5 := Bool.eq_false_iff.mpr c5
  subst c5
  have H1 : (some (false, 1)) = some (r1, r2) := by rw [if_neg (show ¬ (false = true) by decide)] at H; exact H
  clear H
  have H := H1
  clear H1
  simp only [Option.some.injEq, Prod.mk.injEq] at H
  obtain ⟨rfl, rfl⟩ := H
  go_enter Try.func23, Try.ntmps23
  go_wp2_with (first | ((with_reducible refine zg 4 rfl ?_); refine z3 4 27 a1_0 a1_1 a1_2 ?_; intro gb377 hg w31 BK377 hb; have GW377 := sg hg; replace HB := bs hb; clear hb hg) | ((with_reducible refine zg 5 rfl ?_); refine z3 5 27 a2_0 a2_1 a2_2 ?_; intro gb378 hg w32 BK378 hb; have GW378 := sg hg; have NB377_378 := nl hg BK377; replace BK377 := bb BK377 hb; replace HB := bs hb; clear hb hg; obtain ⟨hnb33, hnc33⟩ := zn NB377_378; obtain ⟨hcz34_0, hcz34_1, hcz34_2, hfz34_0, hfz34_1, hfz34_2⟩ := cq3 BK377; obtain ⟨hcz35_0, hcz35_1, hcz35_2, hfz35_0, hfz35_1, hfz35_2⟩ := cq3 BK378) | ((with_reducible refine zg 15 rfl ?_); refine Kd.R_lit k27 _ 27 ?hg (N := 15) ?hd (xs := ([(⟨a1_0, a1_1, a1_2⟩ : S27), (⟨a2_0, a2_1, a2_2⟩ : S27)] : List (S27))) (inner := [.int .i64 a1_0, .int .i64 a1_1, .int .i64 a1_2, .int .i64 a2_0, .int .i64 a2_1, .int .i64 a2_2]) (ok := fun _ => True) (okp := fun _ => True) ?hr ?hp (fun _ hk => hk) trivial (Below.refl _ _) (Nat.le_refl _) (by simp) ?_; (case hd => rfl); (case hg => rfl); (case hr => first | (go_simp; done) | (go_simp; rfl)); (case hp => exact (Reps.c3 (show Kd.M k27 _ _ _ (⟨a1_0, a1_1, a1_2⟩ : S27) [.int .i64 a1_0, .int .i64 a1_1, .int .i64 a1_2] from (k27_mkM _ _ _ (⟨a1_0, a1_1, a1_2⟩ : S27) )) (Reps.c3 (show Kd.M k27 _ _ _ (⟨a2_0, a2_1, a2_2⟩ : S27) [.int .i64 a2_0, .int .i64 a2_1, .int .i64 a2_2] from (k27_mkM _ _ _ (⟨a2_0, a2_1, a2_2⟩ : S27) )) (Reps.none _ _)))); intro v380 w36 ho37 hb hg_ hnew_; clear hg_ hnew_; (first | rw [← Ny379.out] at ho37 | (simp only [Int.reduceToNat] at ho37; rw [← Ny379.out] at ho37)); have HO381 := Aside0.mk (Kd.R_lower (Kd.R_newB (Kd.R_newB ho37 (g := gb377) (o := .cells #[.int .i64 a1_0, .int .i64 a1_1, .int .i64 a1_2] 27 (0, 0)) (be BK377)) (g := gb378) (o := .cells #[.int .i64 a2_0, .int .i64 a2_1, .int .i64 a2_2] 27 (0, 0)) (be BK378)) (below_size (bl))); replace BK377 := bb BK377 hb; replace BK378 := bb BK378 hb; replace HB := bs hb; clear hb ho37; obtain ⟨Ao38, co38, eo38⟩ := Kd.R_slice HO381.out; subst eo38) | ((with_reducible refine zf 61 rfl ?_); refine g1 (some 16) Try.func61 #[.int .i64 a0, .slice Ao38 y379.length co38] ?_; (with_reducible refine (impl_areLattices.calls k a0 _ _ y379 false _ ?side1 ?side2 A4.out).mono ?_); (case side1 => repeat (first | exact (Kd.R_reads' HO381.out).2.2 | (with_reducible refine Kd.C_alloc ?_ _) | (with_reducible refine Kd.C_drewN ?_ _) | (with_reducible refine Kd.C_drew ?_))); (case side2 => exact (Kd.R_reads' HO381.out).2.1); rintro e w39 ⟨rfl, hb⟩; refine ⟨_, rfl, ?_⟩; replace HO381 := Aside0.mk (Kd.R_below (by (with_reducible repeat (first | apply Kd.R_alloc | apply Kd.R_drewN | apply Kd.R_drew)); exact HO381.out) hb); replace BK377 := bb BK377 hb; replace BK378 := bb BK378 hb; replace HB := bs hb; (try clear hb)))
  go_ret2
  exact ⟨er, bl⟩

/-! ### impl_fitted: function 62 -/
def impl_fitted.f (a0_0 : Int) (a0_1 : Int) (a0_2 : Int) (a1 : Bool) : Option (Int × Int × Int × Int) := if a1 = true then (some (a0_0, a0_1, a0_2, 0)) else (some (0, 0, 0, 3))
set_option maxHeartbeats 8000000 in
set_option maxRecDepth 100000 in
theorem impl_fitted.calls (a0_0 : Int) (a0_1 : Int) (a0_2 : Int) (a1 : Bool) (r1 : Int) (r2 : Int) (r3 : Int) (r4 : Int) (w : World) (h : impl_fitted.f a0_0 a0_1 a0_2 a1 = some (r1, r2, r3, r4)) :
  Calls Try.prog 62 #[.agg #[.int .i64 a0_0, .int .i64 a0_1, .int .i64 a0_2], .bool a1] w fun e w' => e = .returned (.tuple #[.agg #[.int .i64 r1, .int .i64 r2, .int .i64 r3], .int .i64 r4]) ∧ Below w.heap.size w w' := by
 have hu50 := Try.underlying50
 have HB := Aside0.mk (Below.refl w.heap.size w)
 unfold impl_fitted.f at h
 have H := h
 clear h
 by_cases c3 : a1 = true
 ·subst c3
  rw [if_pos rfl] at H
  simp only [Option.some.injEq, Prod.mk.injEq] at H
  obtain ⟨rfl, rfl, rfl, rfl⟩ := H
  go_enter Try.func62, Try.ntmps62
  go_wp2_with (first | ((with_reducible refine zg 2 rfl ?_); refine z3 2 50 a0_0 a0_1 a0_2 ?_; intro gb393 hg w4 BK393 hb; have GW393 := sg hg; replace HB := bs hb; clear hb hg) | ((with_reducible refine zg 4 rfl ?_); refine z3 4 50 0 0 0 ?_; intro gb394 hg w5 BK394 hb; have GW394 := sg hg; have NB393_394 := nl hg BK393; replace BK393 := bb BK393 hb; replace HB := bs hb; clear hb hg; obtain ⟨hnb6, hnc6⟩ := zn NB393_394; obtain ⟨hcz7_0, hcz7_1, hcz7_2, hfz7_0, hfz7_1, hfz7_2⟩ := cq3 BK393; obtain ⟨hcz8_0, hcz8_1, hcz8_2, hfz8_0, hfz8_1, hfz8_2⟩ := cq3 BK394))
  refine bodyPost_ret (results_ct rfl _ _ gb394 50 #[.int .i64 a0_0, .int .i64 a0_1, .int .i64 a0_2] (0, 0) _ rfl (bp) Try.underlying50 rfl (by kernel_rfl)) rfl ?_
  exact ⟨er, bl⟩
 ·replace c3 := Bool.eq_false_iff.mpr c3
  subst c3
  have H1 : (some (0, 0, 0, 3)) = some (r1, r2, r3, r4) := by rw [if_neg (show ¬ (false = true) by decide)] at H; exact H
  clear H
  have H := H1
  clear H1
  simp only [Option.some.injEq, Prod.mk.injEq] at H
  obtain ⟨rfl, rfl, rfl, rfl⟩ := H
  go_enter Try.func62, Try.ntmps62
  go_wp2_with (first | ((with_reducible refine zg 2 rfl ?_); refine z3 2 50 a0_0 a0_1 a0_2 ?_; intro gb393 hg w9 BK393 hb; have GW393 := sg hg; replace HB := bs hb; clear hb hg) | ((with_reducible refine zg 4 rfl ?_); refine z3 4 50 0 0 0 ?_; intro gb394 hg w10 BK394 hb; have GW394 := sg hg; have NB393_394 := nl hg BK393; replace BK393 := bb BK393 hb; replace HB := bs hb; clear hb hg; obtain ⟨hnb11, hnc11⟩ := zm NB393_394; obtain ⟨hcz12_0, hcz12_1, hcz12_2, hfz12_0, hfz12_1, hfz12_2⟩ := cq3 BK394))
  refine bodyPost_ret (results_ct rfl _ _ gb394 50 #[.int .i64 0, .int .i64 0, .int .i64 0] (0, 0) _ rfl (bp) Try.underlying50 rfl (by kernel_rfl)) rfl ?_
  exact ⟨er, bl⟩

/-! ### impl_isLevel: function 82 -/
def impl_isLevel.f (a0 : Int) : Option (Bool) := if a0 ≥ (-6) then (some (decide (a0 ≤ 6))) else (some false)
set_option maxHeartbeats 8000000 in
set_option maxRecDepth 100000 in
theorem impl_isLevel.calls (a0 : Int) (r : Bool) (w : World) (h : impl_isLevel.f a0 = some r) :
  Calls Try.prog 82 #[.int .i64 a0] w fun e w' => e = .returned (.bool r) ∧ Drawn0 w w' := by
 unfold impl_isLevel.f at h
 have H := h
 clear h
 replace H := ii H
 rcases H with ⟨c2, H⟩ | ⟨c2, H⟩
 ·have c2b0 := decide_eq_true c2
  clear c2
  obtain rfl := Option.some.inj H
  go_enter Try.func82, Try.ntmps82
  go_wp2
  go_ret
  exact zx
 ·have c2b0 := decide_eq_false c2
  clear c2
  obtain rfl := Option.some.inj H
  go_enter Try.func82, Try.ntmps82
  go_wp2
  go_ret
  exact zx

/-! ### impl_ofMark: function 83 -/
def impl_ofMark.f (k : Nat) (a0 : Int) (a1 : Int) (a2 : Int) : Option (Int × Int × Int × Bool) := (impl_isLevel.f a1).bind fun t396 => (if t396 = true then ((impl_power.f k a0 (wrap64 (a1 + 6))).bind fun t397 => ((impl_mod.f a2 t397).bind fun t398 => ((impl_valuation.f k a0 t398).bind fun t399 => ((impl_power.f k a0 (wrap64 (6 - (mx (wrap64 (6 - t399)) 0)))).bind fun t400 => (if t400 = 0 then (none) else (some (a1, wrap64 (Int.tdiv t398 t400), mx (wrap64 (6 - t399)) 0, true))))))) else (some (0, 0, 0, false)))
set_option maxHeartbeats 8000000 in
set_option maxRecDepth 100000 in
theorem impl_ofMark.calls (k : Nat) (a0 : Int) (a1 : Int) (a2 : Int) (r1 : Int) (r2 : Int) (r3 : Int) (r4 : Bool) (w : World) (h : impl_ofMark.f k a0 a1 a2 = some (r1, r2, r3, r4)) :
  Calls Try.prog 83 #[.int .i64 a0, .int .i64 a1, .int .i64 a2] w fun e w' => e = .returned (.tuple #[.agg #[.int .i64 r1, .int .i64 r2, .int .i64 r3], .bool r4]) ∧ Below w.heap.size w w' := by
 have hu50 := Try.underlying50
 have HB := Aside0.mk (Below.refl w.heap.size w)
 unfold impl_ofMark.f at h
 have H := h
 clear h
 replace H := zi H
 obtain ⟨t396, A4, H⟩ := H
 try dsimp only at H
 by_cases c5 : t396 = true
 ·subst c5
  rw [if_pos rfl] at H
  replace H := zi H
  obtain ⟨t397, A6, H⟩ := H
  try dsimp only at H
  replace H := zi H
  obtain ⟨t398, A7, H⟩ := H
  try dsimp only at H
  replace H := zi H
  obtain ⟨t399, A8, H⟩ := H
  try dsimp only at H
  obtain ⟨ji9, hji9⟩ : ∃ j_ : Int, (mx (wrap64 (6 - t399)) 0) = j_ := ⟨_, rfl⟩
  replace H : ((impl_power.f k a0 (wrap64 (6 - (ji9)))).bind fun t400 => (if t400 = 0 then (none) else (some (a1, wrap64 (Int.tdiv t398 t400), ji9, true)))) = some (r1, r2, r3, r4) := by first | (rw [hji9] at H; exact H) | (simp only [hji9] at H ⊢; exact H)
  (try rw [hji9] at A4)
  (try rw [hji9] at A6)
  (try rw [hji9] at A7)
  (try rw [hji9] at A8)
  (try (have hji9l : 0 ≤ ji9 := by (rw [← hji9]; unfold mx; (repeat' split) <;> omega)))
  (try (have hji9m : 0 ≤ ji9 := by omega))
  have hji9_ : (if (wrap64 (6 - t399)) < 0 then 0 else (wrap64 (6 - t399))) = ji9 := hji9
  replace H := zi H
  obtain ⟨t400, A10, H⟩ := H
  try dsimp only at H
  replace H := ii H
  rcases H with ⟨c11, H⟩ | ⟨c11, H⟩
  ·exact absurd H (by simp)
  ·obtain ⟨c11b0, c11b1⟩ := zy c11
   simp only [Option.some.injEq, Prod.mk.injEq] at H
   obtain ⟨rfl, rfl, rfl, rfl⟩ := H
   go_enter Try.func83, Try.ntmps83
   go_wp2_with (first | ((with_reducible refine zg 6 rfl ?_); refine z3 6 50 0 0 0 ?_; intro gb395 hg w12 BK395 hb; have GW395 := sg hg; replace HB := bs hb; clear hb hg) | ((with_reducible refine zf 82 rfl ?_); refine g1 (some 10) Try.func82 #[.int .i64 a1] ?_; (with_reducible refine (impl_isLevel.calls a1 true _ A4.out).mono ?_); rintro e w' ⟨rfl, ⟨nd, rfl⟩⟩; refine ⟨_, rfl, ?_⟩; (try (rw [drewN_self w12]; generalize hq_ : World.drewN w12 _ = w12; have n0_ : Aside0 (w12.heap[gb395]? = some (.cells #[.int .i64 0, .int .i64 0, .int .i64 0] 50 (0, 0))) := ⟨by rw [← hq_]; exact (be BK395)⟩; have n1_ : Aside0 (Below w.heap.size w w12) := ⟨by rw [← hq_]; exact (bl)⟩; clear BK395 HB hq_; have BK395 := n0_; have HB := n1_; clear n0_ n1_))) | ((with_reducible refine zf 37 rfl ?_); refine g1 (some 17) Try.func37 #[.int .i64 a0, .int .i64 (wrap64 (a1 + 6))] ?_; (with_reducible refine (impl_power.calls k a0 (wrap64 (a1 + 6)) t397 _ A6.out).mono ?_); rintro e w' ⟨rfl, ⟨nd, rfl⟩⟩; refine ⟨_, rfl, ?_⟩; (try (rw [drewN_self w12]; generalize hq_ : World.drewN w12 _ = w12; have n0_ : Aside0 (w12.heap[gb395]? = some (.cells #[.int .i64 0, .int .i64 0, .int .i64 0] 50 (0, 0))) := ⟨by rw [← hq_]; exact (be BK395)⟩; have n1_ : Aside0 (Below w.heap.size w w12) := ⟨by rw [← hq_]; exact (bl)⟩; clear BK395 HB hq_; have BK395 := n0_; have HB := n1_; clear n0_ n1_))) | ((with_reducible refine zf 38 rfl ?_); refine g1 (some 18) Try.func38 #[.int .i64 a2, .int .i64 t397] ?_; (with_reducible refine (impl_mod.calls a2 t397 t398 _ A7.out).mono ?_); rintro e w' ⟨rfl, ⟨nd, rfl⟩⟩; refine ⟨_, rfl, ?_⟩; (try (rw [drewN_self w12]; generalize hq_ : World.drewN w12 _ = w12; have n0_ : Aside0 (w12.heap[gb395]? = some (.cells #[.int .i64 0, .int .i64 0, .int .i64 0] 50 (0, 0))) := ⟨by rw [← hq_]; exact (be BK395)⟩; have n1_ : Aside0 (Below w.heap.size w w12) := ⟨by rw [← hq_]; exact (bl)⟩; clear BK395 HB hq_; have BK395 := n0_; have HB := n1_; clear n0_ n1_))) | ((with_reducible refine zf 50 rfl ?_); refine g1 (some 21) Try.func50 #[.int .i64 a0, .int .i64 t398] ?_; (with_reducible refine (impl_valuation.calls k a0 t398 t399 _ A8.out).mono ?_); rintro e w' ⟨rfl, ⟨nd, rfl⟩⟩; refine ⟨_, rfl, ?_⟩; (try (rw [drewN_self w12]; generalize hq_ : World.drewN w12 _ = w12; have n0_ : Aside0 (w12.heap[gb395]? = some (.cells #[.int .i64 0, .int .i64 0, .int .i64 0] 50 (0, 0))) := ⟨by rw [← hq_]; exact (be BK395)⟩; have n1_ : Aside0 (Below w.heap.size w w12) := ⟨by rw [← hq_]; exact (bl)⟩; clear BK395 HB hq_; have BK395 := n0_; have HB := n1_; clear n0_ n1_))) | ((with_reducible refine zf 37 rfl ?_); refine goesL_ (some 29) rfl rfl Try.func37 (by kernel_rfl) rfl #[.int .i64 a0, .int .i64 (wrap64 (6 - (ji9)))] rfl (by (try simp only [List.map_toArray, List.map_cons, List.map_nil]); first | done | (simp only [hji9]; rfl) | rfl | (simp only [List.length_drop, List.length_take]; rfl)) ?_; (with_reducible refine (impl_power.calls k a0 (wrap64 (6 - (ji9))) t400 _ A10.out).mono ?_); rintro e w' ⟨rfl, ⟨nd, rfl⟩⟩; refine ⟨_, rfl, ?_⟩; (try (rw [drewN_self w12]; generalize hq_ : World.drewN w12 _ = w12; have n0_ : Aside0 (w12.heap[gb395]? = some (.cells #[.int .i64 0, .int .i64 0, .int .i64 0] 50 (0, 0))) := ⟨by rw [← hq_]; exact (be BK395)⟩; have n1_ : Aside0 (Below w.heap.size w w12) := ⟨by rw [← hq_]; exact (bl)⟩; clear BK395 HB hq_; have BK395 := n0_; have HB := n1_; clear n0_ n1_)); obtain ⟨hcz13_0, hcz13_1, hcz13_2, hfz13_0, hfz13_1, hfz13_2⟩ := cq3 BK395))
   refine bodyPost_ret (results_ct rfl _ _ gb395 50 #[.int .i64 a1, .int .i64 (wrap64 (Int.tdiv t398 t400)), .int .i64 ji9] (0, 0) _ rfl (bp) Try.underlying50 rfl (by kernel_rfl)) rfl ?_
   exact ⟨by first | rfl | (simp [errW_none, errW_some] <;> rfl) | (simp only [← hji9]; first | rfl | (simp [errW_none, errW_some] <;> rfl)) | (simp [*, errW_none, errW_some] <;> rfl), bl⟩
 ·replace c5 := Bool.eq_false_iff.mpr c5
  subst c5
  have H1 : (some (0, 0, 0, false)) = some (r1, r2, r3, r4) := by rw [if_neg (show ¬ (false = true) by decide)] at H; exact H
  clear H
  have H := H1
  clear H1
  simp only [Option.some.injEq, Prod.mk.injEq] at H
  obtain ⟨rfl, rfl, rfl, rfl⟩ := H
  go_enter Try.func83, Try.ntmps83
  go_wp2_with (first | ((with_reducible refine zg 6 rfl ?_); refine z3 6 50 0 0 0 ?_; intro gb395 hg w14 BK395 hb; have GW395 := sg hg; replace HB := bs hb; clear hb hg) | ((with_reducible refine zf 82 rfl ?_); refine g1 (some 10) Try.func82 #[.int .i64 a1] ?_; (with_reducible refine (impl_isLevel.calls a1 false _ A4.out).mono ?_); rintro e w' ⟨rfl, ⟨nd, rfl⟩⟩; refine ⟨_, rfl, ?_⟩; (try (rw [drewN_self w14]; generalize hq_ : World.drewN w14 _ = w14; have n0_ : Aside0 (w14.heap[gb395]? = some (.cells #[.int .i64 0, .int .i64 0, .int .i64 0] 50 (0, 0))) := ⟨by rw [← hq_]; exact (be BK395)⟩; have n1_ : Aside0 (Below w.heap.size w w14) := ⟨by rw [← hq_]; exact (bl)⟩; clear BK395 HB hq_; have BK395 := n0_; have HB := n1_; clear n0_ n1_)); obtain ⟨hcz15_0, hcz15_1, hcz15_2, hfz15_0, hfz15_1, hfz15_2⟩ := cq3 BK395))
  refine bodyPost_ret (results_ct rfl _ _ gb395 50 #[.int .i64 0, .int .i64 0, .int .i64 0] (0, 0) _ rfl (bp) Try.underlying50 rfl (by kernel_rfl)) rfl ?_
  exact ⟨er, bl⟩

end Go.Proofs.Ytkfodnlogflcpaa.PFnLattices

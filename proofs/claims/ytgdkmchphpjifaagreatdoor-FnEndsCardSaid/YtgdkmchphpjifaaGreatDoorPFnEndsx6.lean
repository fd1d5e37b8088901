-- Printed by the kit's print and repaired by a program of this session.
import Derived.Test.YtgdkmchphpjifaaGreatDoorPFnEndsx0
import Derived.Test.YtgdkmchphpjifaaGreatDoorPFnEndsx5
namespace Go.Proofs.YtgdkmchphpjifaaGreatDoor.PFnEnds
open Go.RowKit Go.Proofs.YtgdkmchphpjifaaGreatDoorW.PrintWords Go.Proofs.YtgdkmchphpjifaaGreatDoorW.PrintLast Go.Proofs.YtgdkmchphpjifaaGreatDoorW.PrintMore
attribute [local go_sem] max2_int min2_int max_two min_two max_three min_three max_four min_four
set_option linter.unusedVariables false
set_option linter.unusedSimpArgs false

/-! ### spec_l01EndOf: function 33 -/
def spec_l01EndOf.f (k : Nat) (a0 : Int) (a1 : Int) : Option (Int × Int × Bool) := if a1 = 0 then (some (1, 0, true)) else ((spec_l01Gcd.f k a0 a1).bind fun t193 => (if a1 < 0 then (if (wrap64 (-t193)) = 0 then (none) else (if (wrap64 (Int.tdiv a1 (wrap64 (-t193)))) ≤ 1000000 then (some (wrap64 (Int.tdiv a0 (wrap64 (-t193))), wrap64 (Int.tdiv a1 (wrap64 (-t193))), decide ((mx (wrap64 (Int.tdiv a0 (wrap64 (-t193)))) (wrap64 (-(wrap64 (Int.tdiv a0 (wrap64 (-t193))))))) ≤ 1000000))) else (some (wrap64 (Int.tdiv a0 (wrap64 (-t193))), wrap64 (Int.tdiv a1 (wrap64 (-t193))), false)))) else (if t193 = 0 then (none) else (if (wrap64 (Int.tdiv a1 t193)) ≤ 1000000 then (some (wrap64 (Int.tdiv a0 t193), wrap64 (Int.tdiv a1 t193), decide ((mx (wrap64 (Int.tdiv a0 t193)) (wrap64 (-(wrap64 (Int.tdiv a0 t193))))) ≤ 1000000))) else (some (wrap64 (Int.tdiv a0 t193), wrap64 (Int.tdiv a1 t193), false))))))
def spec_l01EndOf.T6 : Bool × List (List Nat × List Nat) := (true, [([], []), ([], []), ([0, 1], [0, 1]), ([], []), ([], []), ([3, 4], [3, 4]), ([2, 5], [2, 5]), ([], []), ([7, 6, 0, 1, 2, 3, 4, 5, 6, 7], [6, 7])])
def spec_l01EndOf.B6 : List Nat := [0, 0, 3, 0, 0, 24, 63, 0, 255]
theorem spec_l01EndOf.tab6 : rtab .any (opsOf Tryz.f33 6) = spec_l01EndOf.T6 := by kernel_rfl
theorem spec_l01EndOf.bits6 : waitsOk spec_l01EndOf.T6.2 spec_l01EndOf.B6 = true := by kernel_rfl
def spec_l01EndOf.T7 : Bool × List (List Nat × List Nat) := (true, [([], []), ([], []), ([1], [1]), ([2], [2]), ([3], [3]), ([4], [4]), ([5, 4], [4, 5]), ([4], [4]), ([7, 4], [4, 7]), ([8, 4], [4, 8]), ([6, 9, 4], [4, 6, 9]), ([10, 4], [4, 10]), ([4, 11], [4, 11]), ([0, 4, 0], [0]), ([12, 13, 0, 1, 2, 3, 4, 5, 6, 7, 8, 9, 10, 11, 12, 13], [12])])
def spec_l01EndOf.B7 : List Nat := [0, 0, 2, 6, 14, 30, 62, 30, 158, 414, 1022, 2046, 4094, 31, 16383]
theorem spec_l01EndOf.tab7 : rtab .any (opsOf Tryz.f33 7) = spec_l01EndOf.T7 := by kernel_rfl
theorem spec_l01EndOf.bits7 : waitsOk spec_l01EndOf.T7.2 spec_l01EndOf.B7 = true := by kernel_rfl
set_option maxHeartbeats 8000000 in
set_option maxRecDepth 100000 in
theorem spec_l01EndOf.calls (k : Nat) (a0 : Int) (a1 : Int) (r1 : Int) (r2 : Int) (r3 : Bool) (w : World) (h : spec_l01EndOf.f k a0 a1 = some (r1, r2, r3)) :
  Calls Tryz.prog 33 #[.int .i64 a0, .int .i64 a1] w fun e w' => e = .returned (.tuple #[.agg #[.int .i64 r1, .int .i64 r2], .bool r3]) ∧ Below w.heap.size w w' := by
 have hu27 := Tryz.underlying27
 have HB := Aside0.mk (Below.refl w.heap.size w)
 unfold spec_l01EndOf.f at h
 have H := h
 clear h
 replace H := ii H
 rcases H with ⟨c3, H⟩ | ⟨c3, H⟩
 ·obtain ⟨c3b0, c3b1⟩ := zz c3
  clear c3
  simp only [Option.some.injEq, Prod.mk.injEq] at H
  obtain ⟨rfl, rfl, rfl⟩ := H
  go_enter Tryz.func33, Tryz.ntmps33
  go_wp2_with (first | ((with_reducible refine zg 4 rfl ?_); (try (refine gate_guard (by rfl) ?_; dsimp only)); refine zb 4 27 #[.int .i64 0, .int .i64 0] ?_; intro gb192 hg w4 BK192 hb; have GW192 := sg hg; replace HB := bs hb; clear hb hg; obtain ⟨hcz5_0, hcz5_1, hfz5_0, hfz5_1⟩ := z2 BK192))
  refine bodyPost_ret (results_ct rfl _ _ gb192 27 #[.int .i64 1, .int .i64 0] (0, 0) _ rfl (bp) Tryz.underlying27 rfl (by kernel_rfl)) rfl ?_
  exact ⟨er, bl⟩
 ·obtain ⟨c3b0, c3b1⟩ := zy c3
  replace H := zi H
  obtain ⟨t193, A6, H⟩ := H
  try dsimp only at H
  replace H := ii H
  rcases H with ⟨c7, H⟩ | ⟨c7, H⟩
  ·have c7b0 := decide_eq_true c7
   clear c7
   replace H := ii H
   rcases H with ⟨c8, H⟩ | ⟨c8, H⟩
   ·exact absurd H (by simp)
   ·obtain ⟨c8b0, c8b1⟩ := zy c8
    replace H := ii H
    rcases H with ⟨c9, H⟩ | ⟨c9, H⟩
    ·have c9b0 := decide_eq_true c9
     clear c9
     obtain ⟨ji10, hji10⟩ : ∃ j_ : Int, (mx (wrap64 (Int.tdiv a0 (wrap64 (-t193)))) (wrap64 (-(wrap64 (Int.tdiv a0 (wrap64 (-t193))))))) = j_ := ⟨_, rfl⟩
     replace H : (some (wrap64 (Int.tdiv a0 (wrap64 (-t193))), wrap64 (Int.tdiv a1 (wrap64 (-t193))), decide ((ji10) ≤ 1000000))) = some (r1, r2, r3) := by first | (rw [hji10] at H; exact H) | (simp only [hji10] at H ⊢; exact H)
     (try rw [hji10] at A6)
     have hji10_ : (if (wrap64 (Int.tdiv a0 (wrap64 (-t193)))) < (wrap64 (-(wrap64 (Int.tdiv a0 (wrap64 (-t193)))))) then (wrap64 (-(wrap64 (Int.tdiv a0 (wrap64 (-t193)))))) else (wrap64 (Int.tdiv a0 (wrap64 (-t193))))) = ji10 := hji10
     simp only [Option.some.injEq, Prod.mk.injEq] at H
     obtain ⟨rfl, rfl, rfl⟩ := H
     go_enter Tryz.func33, Tryz.ntmps33
     try go_wp2_with (first | ((with_reducible refine zg 4 rfl ?_); (try (refine gate_guard (by rfl) ?_; dsimp only)); refine zb 4 27 #[.int .i64 0, .int .i64 0] ?_; intro gb192 hg w11 BK192 hb; have GW192 := sg hg; replace HB := bs hb; clear hb hg) | ((with_reducible refine zf 58 rfl ?_); refine g1 (some 13) Tryz.func58 #[.int .i64 a0, .int .i64 a1] ?_; (with_reducible refine (spec_l01Gcd.calls k a0 a1 t193 _ A6.out).mono ?_); rintro e w12 ⟨rfl, hb⟩; refine ⟨_, rfl, ?_⟩; replace BK192 := bb BK192 hb; replace HB := bs hb; (try clear hb)))
     replace BK192 := Aside0.mk (blk_drew BK192.out)
     replace HB := Aside0.mk (below_drew1 HB.out)
     refine sw 9 (fun w' => True) spec_l01EndOf.tab6 spec_l01EndOf.bits6 trivial (fun hHeld HT_ HW_ => ?_)
     generalize w12.drew = w13 at BK192 HB hHeld ⊢
     refine pu 0 (some 18) (tA 9 1) HT_ ?_
     refine pu 1 (some 19) (tA 9 3) HT_ ?_
     refine pu 2 (some 20) (tA 9 7) HT_ ?_
     refine pu 3 (some 21) (tA 9 15) HT_ ?_
     refine pu 4 (some 22) (tA 9 31) HT_ ?_
     refine pu 5 (some 23) (tA 9 63) HT_ ?_
     refine pu 6 (some 24) (tA 9 127) HT_ ?_
     refine o1 7 (some 7) (tA 9 255) HT_ (fun K hK => ?_)
     refine box_step ?hg (N := 7) ?hd (cs := #[.int .i64 0, .int .i64 0]) (t := 27) ?hr ?_; (case hd => rfl); (case hg => rfl); (case hr => first | (go_simp; done) | (go_simp; rfl))
     intro gb194 hg w14 hbox hb
     have BK194 := Aside0.mk (hbox)
     have GW194 := Aside0.mk ((by rw [hg]; exact (below_size (bl)) : w.heap.size ≤ gb194))
     have GE194 := Aside0.mk ((by rw [hg]; exact (below_size (bl)) : w.heap.size ≤ gb194))
     have NB192_194 := nl hg BK192
     have NB194_192 := ng hg BK192
     replace BK192 := bb BK192 hb
     replace HB := bs hb
     clear hb hg
     refine hK.out _ _ trivial (fun hHeld => ?_)
     clear hK K
     refine nm (some 7) ?_
     refine o1 8 none (tA 9 511) HT_ (fun K hK => ?_)
     have hs15 : w14.cell? ⟨gb194, 0, none⟩ = some (.int .i64 0) := (blk_cell BK194.out 0).trans rfl
     have hfs15 := blk_frozen BK194.out 0
     have hns15_0 := NB192_194.out
     have hms15_0 := NB194_192.out
     have hs16 : w14.cell? ⟨gb194, 1, none⟩ = some (.int .i64 0) := (blk_cell BK194.out 1).trans rfl
     have hfs16 := blk_frozen BK194.out 1
     have hns16_0 := NB192_194.out
     have hms16_0 := NB194_192.out
     refine skip_ (w1 := ?_) (by rfl) rfl ?_ ?_
     rotate_left
     ·go_simp
      rfl
     refine hK.out _ _ trivial (fun hHeld => ?_)
     clear hK K
     refine done_ (done_of HT_.out (by kernel_rfl)) ?_
     try go_wp2
     have n0_ : Aside0 (((w14.setCell ⟨gb194, 0, none⟩ (.int .i64 (wrap64 (Int.tdiv a0 (wrap64 (-t193)))))).setCell ⟨gb194, 1, none⟩ (.int .i64 (wrap64 (Int.tdiv a1 (wrap64 (-t193)))))).heap[gb192]? = some (.cells #[.int .i64 0, .int .i64 0] 27 (0, 0))) := ⟨bp⟩
     have n1_ : Aside0 (((w14.setCell ⟨gb194, 0, none⟩ (.int .i64 (wrap64 (Int.tdiv a0 (wrap64 (-t193)))))).setCell ⟨gb194, 1, none⟩ (.int .i64 (wrap64 (Int.tdiv a1 (wrap64 (-t193)))))).heap[gb194]? = some (.cells #[.int .i64 (wrap64 (Int.tdiv a0 (wrap64 (-t193)))), .int .i64 (wrap64 (Int.tdiv a1 (wrap64 (-t193))))] 27 (0, 0))) := ⟨bp⟩
     have n2_ : Aside0 (Below w.heap.size w ((w14.setCell ⟨gb194, 0, none⟩ (.int .i64 (wrap64 (Int.tdiv a0 (wrap64 (-t193)))))).setCell ⟨gb194, 1, none⟩ (.int .i64 (wrap64 (Int.tdiv a1 (wrap64 (-t193))))))) := ⟨bl⟩
     (try clear BK192)
     (try clear BK194)
     (try clear HB)
     generalize ((w14.setCell ⟨gb194, 0, none⟩ (.int .i64 (wrap64 (Int.tdiv a0 (wrap64 (-t193)))))).setCell ⟨gb194, 1, none⟩ (.int .i64 (wrap64 (Int.tdiv a1 (wrap64 (-t193)))))) = w17 at n0_ n1_ n2_ ⊢
     have BK192 := n0_
     have BK194 := n1_
     have HB := n2_
     clear n0_ n1_ n2_
     replace BK192 := Aside0.mk (blk_drew BK192.out)
     replace BK194 := Aside0.mk (blk_drew BK194.out)
     replace HB := Aside0.mk (below_drew1 HB.out)
     refine sw 15 (fun w' => w'.cell? ⟨gb194, 0, none⟩ = some (.int .i64 (wrap64 (Int.tdiv a0 (wrap64 (-t193))))) ∧ w'.cell? ⟨gb194, 1, none⟩ = some (.int .i64 (wrap64 (Int.tdiv a1 (wrap64 (-t193)))))) spec_l01EndOf.tab7 spec_l01EndOf.bits7 ⟨(blk_cell BK194.out 0).trans rfl, (blk_cell BK194.out 1).trans rfl⟩ (fun hHeld HT_ HW_ => ?_)
     generalize w17.drew = w18 at BK192 BK194 HB hHeld ⊢
     refine pu 1 (some 26) (tA 15 2) HT_ ?_
     refine tk2 0 (some 25) (tA 15 3) HT_ HW_ hHeld ?_
     refine tk2 2 (some 27) (tA 15 7) HT_ HW_ hHeld ?_
     refine pu 3 (some 28) (tA 15 15) HT_ ?_
     refine pu 4 (some 29) (tA 15 31) HT_ ?_
     refine pu 5 (some 30) (tA 15 63) HT_ ?_
     refine pu 7 (some 32) (tA 15 191) HT_ ?_
     refine tk2 6 (some 31) (tA 15 255) HT_ HW_ hHeld ?_
     refine tk2 8 (some 33) (tA 15 511) HT_ HW_ hHeld ?_
     refine pu 9 (some 34) (tA 15 1023) HT_ ?_
     refine pu 10 (some 35) (tA 15 2047) HT_ ?_
     refine pu 11 (some 36) (tA 15 4095) HT_ ?_
     refine pu 12 (some 37) (tA 15 8191) HT_ ?_
     refine o1 13 none (tA 15 16383) HT_ (fun K hK => ?_)
     have hs19 : w18.cell? ⟨gb192, 0, none⟩ = some (.int .i64 0) := (blk_cell BK192.out 0).trans rfl
     have hfs19 := blk_frozen BK192.out 0
     have hns19_1 := NB194_192.out
     have hms19_1 := NB192_194.out
     have hs20 : w18.cell? ⟨gb192, 1, none⟩ = some (.int .i64 0) := (blk_cell BK192.out 1).trans rfl
     have hfs20 := blk_frozen BK192.out 1
     have hns20_1 := NB194_192.out
     have hms20_1 := NB192_194.out
     refine skip_ (w1 := ?_) (by rfl) rfl ?_ ?_
     rotate_left
     ·go_simp
      rfl
     refine hK.out _ _ ⟨(cf gb192 NB194_192 ((cf gb192 NB194_192 (hHeld.1)))), (cf gb192 NB194_192 ((cf gb192 NB194_192 (hHeld.2))))⟩ (fun hHeld => ?_)
     clear hK K
     refine pu 14 (some 5) (tA 15 32767) HT_ ?_
     refine done_ (done_of HT_.out (by kernel_rfl)) ?_
     try go_wp2
     refine bodyPost_ret (results_ct rfl _ _ gb192 27 #[.int .i64 (wrap64 (Int.tdiv a0 (wrap64 (-t193)))), .int .i64 (wrap64 (Int.tdiv a1 (wrap64 (-t193))))] (0, 0) _ rfl (bp) Tryz.underlying27 rfl (by kernel_rfl)) rfl ?_
     exact ⟨by first | rfl | (simp [errW_none, errW_some] <;> rfl) | (simp only [← hji10]; first | rfl | (simp [errW_none, errW_some] <;> rfl)) | (simp [*, errW_none, errW_some] <;> rfl), bl⟩
    ·have c9b0 := decide_eq_false c9
     clear c9
     simp only [Option.some.injEq, Prod.mk.injEq] at H
     obtain ⟨rfl, rfl, rfl⟩ := H
     go_enter Tryz.func33, Tryz.ntmps33
     try go_wp2_with (first | ((with_reducible refine zg 4 rfl ?_); (try (refine gate_guard (by rfl) ?_; dsimp only)); refine zb 4 27 #[.int .i64 0, .int .i64 0] ?_; intro gb192 hg w21 BK192 hb; have GW192 := sg hg; replace HB := bs hb; clear hb hg) | ((with_reducible refine zf 58 rfl ?_); refine g1 (some 13) Tryz.func58 #[.int .i64 a0, .int .i64 a1] ?_; (with_reducible refine (spec_l01Gcd.calls k a0 a1 t193 _ A6.out).mono ?_); rintro e w22 ⟨rfl, hb⟩; refine ⟨_, rfl, ?_⟩; replace BK192 := bb BK192 hb; replace HB := bs hb; (try clear hb)))
     replace BK192 := Aside0.mk (blk_drew BK192.out)
     replace HB := Aside0.mk (below_drew1 HB.out)
     refine sw 9 (fun w' => True) spec_l01EndOf.tab6 spec_l01EndOf.bits6 trivial (fun hHeld HT_ HW_ => ?_)
     generalize w22.drew = w23 at BK192 HB hHeld ⊢
     refine pu 0 (some 18) (tA 9 1) HT_ ?_
     refine pu 1 (some 19) (tA 9 3) HT_ ?_
     refine pu 2 (some 20) (tA 9 7) HT_ ?_
     refine pu 3 (some 21) (tA 9 15) HT_ ?_
     refine pu 4 (some 22) (tA 9 31) HT_ ?_
     refine pu 5 (some 23) (tA 9 63) HT_ ?_
     refine pu 6 (some 24) (tA 9 127) HT_ ?_
     refine o1 7 (some 7) (tA 9 255) HT_ (fun K hK => ?_)
     refine box_step ?hg (N := 7) ?hd (cs := #[.int .i64 0, .int .i64 0]) (t := 27) ?hr ?_; (case hd => rfl); (case hg => rfl); (case hr => first | (go_simp; done) | (go_simp; rfl))
     intro gb194 hg w24 hbox hb
     have BK194 := Aside0.mk (hbox)
     have GW194 := Aside0.mk ((by rw [hg]; exact (below_size (bl)) : w.heap.size ≤ gb194))
     have GE194 := Aside0.mk ((by rw [hg]; exact (below_size (bl)) : w.heap.size ≤ gb194))
     have NB192_194 := nl hg BK192
     have NB194_192 := ng hg BK192
     replace BK192 := bb BK192 hb
     replace HB := bs hb
     clear hb hg
     refine hK.out _ _ trivial (fun hHeld => ?_)
     clear hK K
     refine nm (some 7) ?_
     refine o1 8 none (tA 9 511) HT_ (fun K hK => ?_)
     have hs25 : w24.cell? ⟨gb194, 0, none⟩ = some (.int .i64 0) := (blk_cell BK194.out 0).trans rfl
     have hfs25 := blk_frozen BK194.out 0
     have hns25_0 := NB192_194.out
     have hms25_0 := NB194_192.out
     have hs26 : w24.cell? ⟨gb194, 1, none⟩ = some (.int .i64 0) := (blk_cell BK194.out 1).trans rfl
     have hfs26 := blk_frozen BK194.out 1
     have hns26_0 := NB192_194.out
     have hms26_0 := NB194_192.out
     refine skip_ (w1 := ?_) (by rfl) rfl ?_ ?_
     rotate_left
     ·go_simp
      rfl
     refine hK.out _ _ trivial (fun hHeld => ?_)
     clear hK K
     refine done_ (done_of HT_.out (by kernel_rfl)) ?_
     try go_wp2
     have n0_ : Aside0 (((w24.setCell ⟨gb194, 0, none⟩ (.int .i64 (wrap64 (Int.tdiv a0 (wrap64 (-t193)))))).setCell ⟨gb194, 1, none⟩ (.int .i64 (wrap64 (Int.tdiv a1 (wrap64 (-t193)))))).heap[gb192]? = some (.cells #[.int .i64 0, .int .i64 0] 27 (0, 0))) := ⟨bp⟩
     have n1_ : Aside0 (((w24.setCell ⟨gb194, 0, none⟩ (.int .i64 (wrap64 (Int.tdiv a0 (wrap64 (-t193)))))).setCell ⟨gb194, 1, none⟩ (.int .i64 (wrap64 (Int.tdiv a1 (wrap64 (-t193)))))).heap[gb194]? = some (.cells #[.int .i64 (wrap64 (Int.tdiv a0 (wrap64 (-t193)))), .int .i64 (wrap64 (Int.tdiv a1 (wrap64 (-t193))))] 27 (0, 0))) := ⟨bp⟩
     have n2_ : Aside0 (Below w.heap.size w ((w24.setCell ⟨gb194, 0, none⟩ (.int .i64 (wrap64 (Int.tdiv a0 (wrap64 (-t193)))))).setCell ⟨gb194, 1, none⟩ (.int .i64 (wrap64 (Int.tdiv a1 (wrap64 (-t193))))))) := ⟨bl⟩
     (try clear BK192)
     (try clear BK194)
     (try clear HB)
     generalize ((w24.setCell ⟨gb194, 0, none⟩ (.int .i64 (wrap64 (Int.tdiv a0 (wrap64 (-t193)))))).setCell ⟨gb194, 1, none⟩ (.int .i64 (wrap64 (Int.tdiv a1 (wrap64 (-t193)))))) = w27 at n0_ n1_ n2_ ⊢
     have BK192 := n0_
     have BK194 := n1_
     have HB := n2_
     clear n0_ n1_ n2_
     replace BK192 := Aside0.mk (blk_drew BK192.out)
     replace BK194 := Aside0.mk (blk_drew BK194.out)
     replace HB := Aside0.mk (below_drew1 HB.out)
     refine sw 15 (fun w' => w'.cell? ⟨gb194, 0, none⟩ = some (.int .i64 (wrap64 (Int.tdiv a0 (wrap64 (-t193))))) ∧ w'.cell? ⟨gb194, 1, none⟩ = some (.int .i64 (wrap64 (Int.tdiv a1 (wrap64 (-t193)))))) spec_l01EndOf.tab7 spec_l01EndOf.bits7 ⟨(blk_cell BK194.out 0).trans rfl, (blk_cell BK194.out 1).trans rfl⟩ (fun hHeld HT_ HW_ => ?_)
     generalize w27.drew = w28 at BK192 BK194 HB hHeld ⊢
     refine pu 1 (some 26) (tA 15 2) HT_ ?_
     refine tk2 0 (some 25) (tA 15 3) HT_ HW_ hHeld ?_
     refine tk2 2 (some 27) (tA 15 7) HT_ HW_ hHeld ?_
     refine pu 3 (some 28) (tA 15 15) HT_ ?_
     refine pu 4 (some 29) (tA 15 31) HT_ ?_
     refine pv 5 (some 30) (tA 15 63) HT_ ?_
     refine pv 6 (some 31) (tA 15 127) HT_ ?_
     refine pv 7 (some 32) (tA 15 255) HT_ ?_
     refine pv 8 (some 33) (tA 15 511) HT_ ?_
     refine pv 9 (some 34) (tA 15 1023) HT_ ?_
     refine pv 10 (some 35) (tA 15 2047) HT_ ?_
     refine pv 11 (some 36) (tA 15 4095) HT_ ?_
     refine pu 12 (some 37) (tA 15 8191) HT_ ?_
     refine o1 13 none (tA 15 16383) HT_ (fun K hK => ?_)
     have hs29 : w28.cell? ⟨gb192, 0, none⟩ = some (.int .i64 0) := (blk_cell BK192.out 0).trans rfl
     have hfs29 := blk_frozen BK192.out 0
     have hns29_1 := NB194_192.out
     have hms29_1 := NB192_194.out
     have hs30 : w28.cell? ⟨gb192, 1, none⟩ = some (.int .i64 0) := (blk_cell BK192.out 1).trans rfl
     have hfs30 := blk_frozen BK192.out 1
     have hns30_1 := NB194_192.out
     have hms30_1 := NB192_194.out
     refine skip_ (w1 := ?_) (by rfl) rfl ?_ ?_
     rotate_left
     ·go_simp
      rfl
     refine hK.out _ _ ⟨(cf gb192 NB194_192 ((cf gb192 NB194_192 (hHeld.1)))), (cf gb192 NB194_192 ((cf gb192 NB194_192 (hHeld.2))))⟩ (fun hHeld => ?_)
     clear hK K
     refine pu 14 (some 5) (tA 15 32767) HT_ ?_
     refine done_ (done_of HT_.out (by kernel_rfl)) ?_
     try go_wp2
     refine bodyPost_ret (results_ct rfl _ _ gb192 27 #[.int .i64 (wrap64 (Int.tdiv a0 (wrap64 (-t193)))), .int .i64 (wrap64 (Int.tdiv a1 (wrap64 (-t193))))] (0, 0) _ rfl (bp) Tryz.underlying27 rfl (by kernel_rfl)) rfl ?_
     exact ⟨er, bl⟩
  ·have c7b0 := decide_eq_false c7
   clear c7
   replace H := ii H
   rcases H with ⟨c31, H⟩ | ⟨c31, H⟩
   ·exact absurd H (by simp)
   ·obtain ⟨c31b0, c31b1⟩ := zy c31
    replace H := ii H
    rcases H with ⟨c32, H⟩ | ⟨c32, H⟩
    ·have c32b0 := decide_eq_true c32
     clear c32
     obtain ⟨ji33, hji33⟩ : ∃ j_ : Int, (mx (wrap64 (Int.tdiv a0 t193)) (wrap64 (-(wrap64 (Int.tdiv a0 t193))))) = j_ := ⟨_, rfl⟩
     replace H : (some (wrap64 (Int.tdiv a0 t193), wrap64 (Int.tdiv a1 t193), decide ((ji33) ≤ 1000000))) = some (r1, r2, r3) := by first | (rw [hji33] at H; exact H) | (simp only [hji33] at H ⊢; exact H)
     (try rw [hji33] at A6)
     have hji33_ : (if (wrap64 (Int.tdiv a0 t193)) < (wrap64 (-(wrap64 (Int.tdiv a0 t193)))) then (wrap64 (-(wrap64 (Int.tdiv a0 t193)))) else (wrap64 (Int.tdiv a0 t193))) = ji33 := hji33
     simp only [Option.some.injEq, Prod.mk.injEq] at H
     obtain ⟨rfl, rfl, rfl⟩ := H
     go_enter Tryz.func33, Tryz.ntmps33
     try go_wp2_with (first | ((with_reducible refine zg 4 rfl ?_); (try (refine gate_guard (by rfl) ?_; dsimp only)); refine zb 4 27 #[.int .i64 0, .int .i64 0] ?_; intro gb192 hg w34 BK192 hb; have GW192 := sg hg; replace HB := bs hb; clear hb hg) | ((with_reducible refine zf 58 rfl ?_); refine g1 (some 13) Tryz.func58 #[.int .i64 a0, .int .i64 a1] ?_; (with_reducible refine (spec_l01Gcd.calls k a0 a1 t193 _ A6.out).mono ?_); rintro e w35 ⟨rfl, hb⟩; refine ⟨_, rfl, ?_⟩; replace BK192 := bb BK192 hb; replace HB := bs hb; (try clear hb)))
     replace BK192 := Aside0.mk (blk_drew BK192.out)
     replace HB := Aside0.mk (below_drew1 HB.out)
     refine sw 9 (fun w' => True) spec_l01EndOf.tab6 spec_l01EndOf.bits6 trivial (fun hHeld HT_ HW_ => ?_)
     generalize w35.drew = w36 at BK192 HB hHeld ⊢
     refine pu 0 (some 18) (tA 9 1) HT_ ?_
     refine pu 1 (some 19) (tA 9 3) HT_ ?_
     refine pu 2 (some 20) (tA 9 7) HT_ ?_
     refine pu 3 (some 21) (tA 9 15) HT_ ?_
     refine pu 4 (some 22) (tA 9 31) HT_ ?_
     refine pu 5 (some 23) (tA 9 63) HT_ ?_
     refine pu 6 (some 24) (tA 9 127) HT_ ?_
     refine o1 7 (some 7) (tA 9 255) HT_ (fun K hK => ?_)
     refine box_step ?hg (N := 7) ?hd (cs := #[.int .i64 0, .int .i64 0]) (t := 27) ?hr ?_; (case hd => rfl); (case hg => rfl); (case hr => first | (go_simp; done) | (go_simp; rfl))
     intro gb195 hg w37 hbox hb
     have BK195 := Aside0.mk (hbox)
     have GW195 := Aside0.mk ((by rw [hg]; exact (below_size (bl)) : w.heap.size ≤ gb195))
     have GE195 := Aside0.mk ((by rw [hg]; exact (below_size (bl)) : w.heap.size ≤ gb195))
     have NB192_195 := nl hg BK192
     have NB195_192 := ng hg BK192
     replace BK192 := bb BK192 hb
     replace HB := bs hb
     clear hb hg
     refine hK.out _ _ trivial (fun hHeld => ?_)
     clear hK K
     refine nm (some 7) ?_
     refine o1 8 none (tA 9 511) HT_ (fun K hK => ?_)
     have hs38 : w37.cell? ⟨gb195, 0, none⟩ = some (.int .i64 0) := (blk_cell BK195.out 0).trans rfl
     have hfs38 := blk_frozen BK195.out 0
     have hns38_0 := NB192_195.out
     have hms38_0 := NB195_192.out
     have hs39 : w37.cell? ⟨gb195, 1, none⟩ = some (.int .i64 0) := (blk_cell BK195.out 1).trans rfl
     have hfs39 := blk_frozen BK195.out 1
     have hns39_0 := NB192_195.out
     have hms39_0 := NB195_192.out
     refine skip_ (w1 := ?_) (by rfl) rfl ?_ ?_
     rotate_left
     ·go_simp
      rfl
     refine hK.out _ _ trivial (fun hHeld => ?_)
     clear hK K
     refine done_ (done_of HT_.out (by kernel_rfl)) ?_
     try go_wp2
     have n0_ : Aside0 (((w37.setCell ⟨gb195, 0, none⟩ (.int .i64 (wrap64 (Int.tdiv a0 t193)))).setCell ⟨gb195, 1, none⟩ (.int .i64 (wrap64 (Int.tdiv a1 t193)))).heap[gb192]? = some (.cells #[.int .i64 0, .int .i64 0] 27 (0, 0))) := ⟨bp⟩
     have n1_ : Aside0 (((w37.setCell ⟨gb195, 0, none⟩ (.int .i64 (wrap64 (Int.tdiv a0 t193)))).setCell ⟨gb195, 1, none⟩ (.int .i64 (wrap64 (Int.tdiv a1 t193)))).heap[gb195]? = some (.cells #[.int .i64 (wrap64 (Int.tdiv a0 t193)), .int .i64 (wrap64 (Int.tdiv a1 t193))] 27 (0, 0))) := ⟨bp⟩
     have n2_ : Aside0 (Below w.heap.size w ((w37.setCell ⟨gb195, 0, none⟩ (.int .i64 (wrap64 (Int.tdiv a0 t193)))).setCell ⟨gb195, 1, none⟩ (.int .i64 (wrap64 (Int.tdiv a1 t193))))) := ⟨bl⟩
     (try clear BK192)
     (try clear BK195)
     (try clear HB)
     generalize ((w37.setCell ⟨gb195, 0, none⟩ (.int .i64 (wrap64 (Int.tdiv a0 t193)))).setCell ⟨gb195, 1, none⟩ (.int .i64 (wrap64 (Int.tdiv a1 t193)))) = w40 at n0_ n1_ n2_ ⊢
     have BK192 := n0_
     have BK195 := n1_
     have HB := n2_
     clear n0_ n1_ n2_
     replace BK192 := Aside0.mk (blk_drew BK192.out)
     replace BK195 := Aside0.mk (blk_drew BK195.out)
     replace HB := Aside0.mk (below_drew1 HB.out)
     refine sw 15 (fun w' => w'.cell? ⟨gb195, 0, none⟩ = some (.int .i64 (wrap64 (Int.tdiv a0 t193))) ∧ w'.cell? ⟨gb195, 1, none⟩ = some (.int .i64 (wrap64 (Int.tdiv a1 t193)))) spec_l01EndOf.tab7 spec_l01EndOf.bits7 ⟨(blk_cell BK195.out 0).trans rfl, (blk_cell BK195.out 1).trans rfl⟩ (fun hHeld HT_ HW_ => ?_)
     generalize w40.drew = w41 at BK192 BK195 HB hHeld ⊢
     refine pu 1 (some 26) (tA 15 2) HT_ ?_
     refine tk2 0 (some 25) (tA 15 3) HT_ HW_ hHeld ?_
     refine tk2 2 (some 27) (tA 15 7) HT_ HW_ hHeld ?_
     refine pu 3 (some 28) (tA 15 15) HT_ ?_
     refine pu 4 (some 29) (tA 15 31) HT_ ?_
     refine pu 5 (some 30) (tA 15 63) HT_ ?_
     refine pu 7 (some 32) (tA 15 191) HT_ ?_
     refine tk2 6 (some 31) (tA 15 255) HT_ HW_ hHeld ?_
     refine tk2 8 (some 33) (tA 15 511) HT_ HW_ hHeld ?_
     refine pu 9 (some 34) (tA 15 1023) HT_ ?_
     refine pu 10 (some 35) (tA 15 2047) HT_ ?_
     refine pu 11 (some 36) (tA 15 4095) HT_ ?_
     refine pu 12 (some 37) (tA 15 8191) HT_ ?_
     refine o1 13 none (tA 15 16383) HT_ (fun K hK => ?_)
     have hs42 : w41.cell? ⟨gb192, 0, none⟩ = some (.int .i64 0) := (blk_cell BK192.out 0).trans rfl
     have hfs42 := blk_frozen BK192.out 0
     have hns42_1 := NB195_192.out
     have hms42_1 := NB192_195.out
     have hs43 : w41.cell? ⟨gb192, 1, none⟩ = some (.int .i64 0) := (blk_cell BK192.out 1).trans rfl
     have hfs43 := blk_frozen BK192.out 1
     have hns43_1 := NB195_192.out
     have hms43_1 := NB192_195.out
     refine skip_ (w1 := ?_) (by rfl) rfl ?_ ?_
     rotate_left
     ·go_simp
      rfl
     refine hK.out _ _ ⟨(cf gb192 NB195_192 ((cf gb192 NB195_192 (hHeld.1)))), (cf gb192 NB195_192 ((cf gb192 NB195_192 (hHeld.2))))⟩ (fun hHeld => ?_)
     clear hK K
     refine pu 14 (some 5) (tA 15 32767) HT_ ?_
     refine done_ (done_of HT_.out (by kernel_rfl)) ?_
     try go_wp2
     refine bodyPost_ret (results_ct rfl _ _ gb192 27 #[.int .i64 (wrap64 (Int.tdiv a0 t193)), .int .i64 (wrap64 (Int.tdiv a1 t193))] (0, 0) _ rfl (bp) Tryz.underlying27 rfl (by kernel_rfl)) rfl ?_
     exact ⟨by first | rfl | (simp [errW_none, errW_some] <;> rfl) | (simp only [← hji33]; first | rfl | (simp [errW_none, errW_some] <;> rfl)) | (simp [*, errW_none, errW_some] <;> rfl), bl⟩
    ·have c32b0 := decide_eq_false c32
     clear c32
     simp only [Option.some.injEq, Prod.mk.injEq] at H
     obtain ⟨rfl, rfl, rfl⟩ := H
     go_enter Tryz.func33, Tryz.ntmps33
     try go_wp2_with (first | ((with_reducible refine zg 4 rfl ?_); (try (refine gate_guard (by rfl) ?_; dsimp only)); refine zb 4 27 #[.int .i64 0, .int .i64 0] ?_; intro gb192 hg w44 BK192 hb; have GW192 := sg hg; replace HB := bs hb; clear hb hg) | ((with_reducible refine zf 58 rfl ?_); refine g1 (some 13) Tryz.func58 #[.int .i64 a0, .int .i64 a1] ?_; (with_reducible refine (spec_l01Gcd.calls k a0 a1 t193 _ A6.out).mono ?_); rintro e w45 ⟨rfl, hb⟩; refine ⟨_, rfl, ?_⟩; replace BK192 := bb BK192 hb; replace HB := bs hb; (try clear hb)))
     replace BK192 := Aside0.mk (blk_drew BK192.out)
     replace HB := Aside0.mk (below_drew1 HB.out)
     refine sw 9 (fun w' => True) spec_l01EndOf.tab6 spec_l01EndOf.bits6 trivial (fun hHeld HT_ HW_ => ?_)
     generalize w45.drew = w46 at BK192 HB hHeld ⊢
     refine pu 0 (some 18) (tA 9 1) HT_ ?_
     refine pu 1 (some 19) (tA 9 3) HT_ ?_
     refine pu 2 (some 20) (tA 9 7) HT_ ?_
     refine pu 3 (some 21) (tA 9 15) HT_ ?_
     refine pu 4 (some 22) (tA 9 31) HT_ ?_
     refine pu 5 (some 23) (tA 9 63) HT_ ?_
     refine pu 6 (some 24) (tA 9 127) HT_ ?_
     refine o1 7 (some 7) (tA 9 255) HT_ (fun K hK => ?_)
     refine box_step ?hg (N := 7) ?hd (cs := #[.int .i64 0, .int .i64 0]) (t := 27) ?hr ?_; (case hd => rfl); (case hg => rfl); (case hr => first | (go_simp; done) | (go_simp; rfl))
     intro gb195 hg w47 hbox hb
     have BK195 := Aside0.mk (hbox)
     have GW195 := Aside0.mk ((by rw [hg]; exact (below_size (bl)) : w.heap.size ≤ gb195))
     have GE195 := Aside0.mk ((by rw [hg]; exact (below_size (bl)) : w.heap.size ≤ gb195))
     have NB192_195 := nl hg BK192
     have NB195_192 := ng hg BK192
     replace BK192 := bb BK192 hb
     replace HB := bs hb
     clear hb hg
     refine hK.out _ _ trivial (fun hHeld => ?_)
     clear hK K
     refine nm (some 7) ?_
     refine o1 8 none (tA 9 511) HT_ (fun K hK => ?_)
     have hs48 : w47.cell? ⟨gb195, 0, none⟩ = some (.int .i64 0) := (blk_cell BK195.out 0).trans rfl
     have hfs48 := blk_frozen BK195.out 0
     have hns48_0 := NB192_195.out
     have hms48_0 := NB195_192.out
     have hs49 : w47.cell? ⟨gb195, 1, none⟩ = some (.int .i64 0) := (blk_cell BK195.out 1).trans rfl
     have hfs49 := blk_frozen BK195.out 1
     have hns49_0 := NB192_195.out
     have hms49_0 := NB195_192.out
     refine skip_ (w1 := ?_) (by rfl) rfl ?_ ?_
     rotate_left
     ·go_simp
      rfl
     refine hK.out _ _ trivial (fun hHeld => ?_)
     clear hK K
     refine done_ (done_of HT_.out (by kernel_rfl)) ?_
     try go_wp2
     have n0_ : Aside0 (((w47.setCell ⟨gb195, 0, none⟩ (.int .i64 (wrap64 (Int.tdiv a0 t193)))).setCell ⟨gb195, 1, none⟩ (.int .i64 (wrap64 (Int.tdiv a1 t193)))).heap[gb192]? = some (.cells #[.int .i64 0, .int .i64 0] 27 (0, 0))) := ⟨bp⟩
     have n1_ : Aside0 (((w47.setCell ⟨gb195, 0, none⟩ (.int .i64 (wrap64 (Int.tdiv a0 t193)))).setCell ⟨gb195, 1, none⟩ (.int .i64 (wrap64 (Int.tdiv a1 t193)))).heap[gb195]? = some (.cells #[.int .i64 (wrap64 (Int.tdiv a0 t193)), .int .i64 (wrap64 (Int.tdiv a1 t193))] 27 (0, 0))) := ⟨bp⟩
     have n2_ : Aside0 (Below w.heap.size w ((w47.setCell ⟨gb195, 0, none⟩ (.int .i64 (wrap64 (Int.tdiv a0 t193)))).setCell ⟨gb195, 1, none⟩ (.int .i64 (wrap64 (Int.tdiv a1 t193))))) := ⟨bl⟩
     (try clear BK192)
     (try clear BK195)
     (try clear HB)
     generalize ((w47.setCell ⟨gb195, 0, none⟩ (.int .i64 (wrap64 (Int.tdiv a0 t193)))).setCell ⟨gb195, 1, none⟩ (.int .i64 (wrap64 (Int.tdiv a1 t193)))) = w50 at n0_ n1_ n2_ ⊢
     have BK192 := n0_
     have BK195 := n1_
     have HB := n2_
     clear n0_ n1_ n2_
     replace BK192 := Aside0.mk (blk_drew BK192.out)
     replace BK195 := Aside0.mk (blk_drew BK195.out)
     replace HB := Aside0.mk (below_drew1 HB.out)
     refine sw 15 (fun w' => w'.cell? ⟨gb195, 0, none⟩ = some (.int .i64 (wrap64 (Int.tdiv a0 t193))) ∧ w'.cell? ⟨gb195, 1, none⟩ = some (.int .i64 (wrap64 (Int.tdiv a1 t193)))) spec_l01EndOf.tab7 spec_l01EndOf.bits7 ⟨(blk_cell BK195.out 0).trans rfl, (blk_cell BK195.out 1).trans rfl⟩ (fun hHeld HT_ HW_ => ?_)
     generalize w50.drew = w51 at BK192 BK195 HB hHeld ⊢
     refine pu 1 (some 26) (tA 15 2) HT_ ?_
     refine tk2 0 (some 25) (tA 15 3) HT_ HW_ hHeld ?_
     refine tk2 2 (some 27) (tA 15 7) HT_ HW_ hHeld ?_
     refine pu 3 (some 28) (tA 15 15) HT_ ?_
     refine pu 4 (some 29) (tA 15 31) HT_ ?_
     refine pv 5 (some 30) (tA 15 63) HT_ ?_
     refine pv 6 (some 31) (tA 15 127) HT_ ?_
     refine pv 7 (some 32) (tA 15 255) HT_ ?_
     refine pv 8 (some 33) (tA 15 511) HT_ ?_
     refine pv 9 (some 34) (tA 15 1023) HT_ ?_
     refine pv 10 (some 35) (tA 15 2047) HT_ ?_
     refine pv 11 (some 36) (tA 15 4095) HT_ ?_
     refine pu 12 (some 37) (tA 15 8191) HT_ ?_
     refine o1 13 none (tA 15 16383) HT_ (fun K hK => ?_)
     have hs52 : w51.cell? ⟨gb192, 0, none⟩ = some (.int .i64 0) := (blk_cell BK192.out 0).trans rfl
     have hfs52 := blk_frozen BK192.out 0
     have hns52_1 := NB195_192.out
     have hms52_1 := NB192_195.out
     have hs53 : w51.cell? ⟨gb192, 1, none⟩ = some (.int .i64 0) := (blk_cell BK192.out 1).trans rfl
     have hfs53 := blk_frozen BK192.out 1
     have hns53_1 := NB195_192.out
     have hms53_1 := NB192_195.out
     refine skip_ (w1 := ?_) (by rfl) rfl ?_ ?_
     rotate_left
     ·go_simp
      rfl
     refine hK.out _ _ ⟨(cf gb192 NB195_192 ((cf gb192 NB195_192 (hHeld.1)))), (cf gb192 NB195_192 ((cf gb192 NB195_192 (hHeld.2))))⟩ (fun hHeld => ?_)
     clear hK K
     refine pu 14 (some 5) (tA 15 32767) HT_ ?_
     refine done_ (done_of HT_.out (by kernel_rfl)) ?_
     try go_wp2
     refine bodyPost_ret (results_ct rfl _ _ gb192 27 #[.int .i64 (wrap64 (Int.tdiv a0 t193)), .int .i64 (wrap64 (Int.tdiv a1 t193))] (0, 0) _ rfl (bp) Tryz.underlying27 rfl (by kernel_rfl)) rfl ?_
     exact ⟨er, bl⟩

end Go.Proofs.YtgdkmchphpjifaaGreatDoor.PFnEnds

-- Printed by the kit's print and repaired by a program of this session.
import Derived.Test.YtpmepopagapeiaaPFnMediansx0
import Derived.Test.YtpmepopagapeiaaPFnMediansx2
import Derived.Test.YtpmepopagapeiaaPFnMediansx9
namespace Go.Proofs.Ytpmepopagapeiaa.PFnMedians
open Go.RowKit Go.Proofs.YtpmepopagapeiaaW.PrintWords Go.Proofs.YtpmepopagapeiaaW.PrintLast Go.Proofs.YtpmepopagapeiaaW.PrintMore
attribute [local go_sem] max2_int min2_int max_two min_two max_three min_three max_four min_four
set_option linter.unusedVariables false
set_option linter.unusedSimpArgs false

/-! ### spec_l01DrawPrime: function 145 -/
def spec_l01DrawPrime.f (s0_0 : List Int) (s0_1 : Int) (s0_2 : Int) : Option (Int × Int × Int) := (spec_l01Pick.f s0_0 s0_1 s0_2 (([2, 2, 3, 3, 5, 7] : List Int))).bind fun bt394 => (some (bt394.1, bt394.2.1, bt394.2.2))
set_option maxHeartbeats 8000000 in
set_option maxRecDepth 100000 in
theorem spec_l01DrawPrime.calls (g : Nat) (s0_0 : List Int) (s0_1 : Int) (s0_2 : Int) (r1 : Int) (r2 : Int) (r3 : Int) (w0 w : World) (hI : IsS127 w0 w g s0_0 s0_1 s0_2) (hB : Below w0.heap.size w0 w) (h : spec_l01DrawPrime.f s0_0 s0_1 s0_2 = some (r1, r2, r3)) :
  Calls Try.prog 145 #[.pointer (some ⟨g, 0, none⟩)] w fun e w' => e = .returned (.int .i64 r1) ∧ IsS127 w0 w' g s0_0 r2 r3 ∧ Below w0.heap.size w0 w' ∧ KeepBut w w' g none := by
 have HI0 := Aside0.mk hI
 have HK := Aside0.mk (KeepBut.refl w g none)
 have HL := Aside0.mk hB.size
 clear hI
 have HW0 := Aside0.mk hB.size
 have HB := Aside0.mk hB
 clear hB
 unfold spec_l01DrawPrime.f at h
 have H := h
 clear h
 obtain ⟨y391, hy391⟩ : ∃ y_ : List Int, y_ = (([2, 2, 3, 3, 5, 7] : List Int)) := ⟨_, rfl⟩
 replace H : ((spec_l01Pick.f s0_0 s0_1 s0_2 y391).bind fun bt394 => (some (bt394.1, bt394.2.1, bt394.2.2))) = some (r1, r2, r3) := by first | exact hy391 ▸ H | exact H
 have Ny391 := Aside0.mk hy391
 clear hy391
 replace H := zi H
 obtain ⟨⟨t394, t395, t396⟩, A2, H⟩ := H
 try dsimp only at H
 simp only [Option.some.injEq, Prod.mk.injEq] at H
 obtain ⟨rfl, rfl, rfl⟩ := H
 go_enter Try.func145, Try.ntmps145
 go_wp2_with (first | ((with_reducible refine zg 4 rfl ?_); refine Kd.R_lit (Kd.int .i64) _ 2 ?hg (N := 4) ?hd (xs := ([2, 2, 3, 3, 5, 7] : List Int)) (inner := [.int .i64 2, .int .i64 2, .int .i64 3, .int .i64 3, .int .i64 5, .int .i64 7]) (ok := fun _ => True) (okp := fun _ => True) ?hr ?hp (fun _ hk => hk) trivial (Below.refl _ _) (Nat.le_refl _) (by simp) ?_; (case hd => rfl); (case hg => rfl); (case hr => first | (go_simp; done) | (go_simp; rfl)); (case hp => exact (Reps.one (show Kd.M (Kd.int .i64) _ _ _ 2 [.int .i64 2] from rfl) (Reps.one (show Kd.M (Kd.int .i64) _ _ _ 2 [.int .i64 2] from rfl) (Reps.one (show Kd.M (Kd.int .i64) _ _ _ 3 [.int .i64 3] from rfl) (Reps.one (show Kd.M (Kd.int .i64) _ _ _ 3 [.int .i64 3] from rfl) (Reps.one (show Kd.M (Kd.int .i64) _ _ _ 5 [.int .i64 5] from rfl) (Reps.one (show Kd.M (Kd.int .i64) _ _ _ 7 [.int .i64 7] from rfl) (Reps.none _ _)))))))); intro v392 w3 ho4 hb hg_ hnew_; clear hg_ hnew_; (first | rw [← Ny391.out] at ho4 | (simp only [Int.reduceToNat] at ho4; rw [← Ny391.out] at ho4)); have HO393 := Aside0.mk (Kd.R_lower ho4 (keep_size (w := w) (g := g) (row := none) (kl))); replace HK := Aside0.mk (KeepBut.trans (kl) (KeepBut.of_below hb g none) (.inl rfl)); replace HB := Aside0.mk (below_step IsS127.b hb); replace HI0 := Aside0.mk (IsS127.below (IsS127.a) hb); clear hb ho4; obtain ⟨Ao5, co5, eo5⟩ := Kd.R_slice HO393.out; subst eo5) | ((with_reducible refine zf 100 rfl ?_); refine g1 (some 5) Try.func100 #[.pointer (some ⟨g, 0, none⟩), .slice Ao5 y391.length co5] ?_; (with_reducible refine (spec_l01Pick.calls g s0_0 s0_1 s0_2 _ _ y391 t394 t395 t396 w0 _ ?side1 ?side2 ?side3 ?side4 ?side5 A2.out).mono ?_); (case side1 => exact IsS127.a); (case side2 => exact IsS127.b); (case side3 => repeat (first | exact (Kd.R_reads' HO393.out).2.2 | (with_reducible refine Kd.C_alloc ?_ _) | (with_reducible refine Kd.C_drewN ?_ _) | (with_reducible refine Kd.C_drew ?_))); (case side4 => exact (Kd.R_reads' HO393.out).2.1); (case side5 => exact far_slice (IsS127.own_ne HI0.out HO393.out (by decide))); rintro e w6 ⟨rfl, hi, hb, hk⟩; refine ⟨_, rfl, ?_⟩; replace HO393 := Aside0.mk (Kd.R_mono (Kd.R_keep (IsS127.apart (IsS127.a : IsS127 w0 _ g s0_0 s0_1 s0_2) (by (with_reducible repeat (first | apply Kd.R_alloc | apply Kd.R_drewN | apply Kd.R_drew)); exact HO393.out) (by decide)) hk (fun _ h => h.2)) (fun _ h => h.1)); replace HK := Aside0.mk (KeepBut.trans (kl) hk (.inl rfl)); replace HI0 := Aside0.mk (hi); replace HB := Aside0.mk (hb); (try clear hb hk)))
 go_ret
 exact ⟨er, IsS127.a, IsS127.b, kl⟩

/-! ### spec_l01Spoil: function 99 -/
def spec_l01Spoil.f (k : Nat) (s0_0 : List Int) (s0_1 : Int) (s0_2 : Int) : Option (Int × Int × Int × Int × Int × Int) := (spec_l01DrawPrime.f s0_0 s0_1 s0_2).bind fun bt398 => ((spec_l01Draw.f k s0_0 bt398.2.1 bt398.2.2 bt398.1).bind fun bt401 => ((spec_l01Bad.f s0_0 bt401.2.2.2.1 bt401.2.2.2.2 bt401.1 bt401.2.1 bt401.2.2.1).bind fun bt406 => ((spec_l01Next.f s0_0 bt406.2.2.2.1 bt406.2.2.2.2 40).bind fun bt412 => (if bt412.1 = 0 then ((spec_l01Pick.f s0_0 bt412.2.1 bt412.2.2 (([0, 1, 4, 11, (-3)] : List Int))).bind fun bt418 => (some (bt418.1, bt406.1, bt406.2.1, bt406.2.2.1, bt418.2.1, bt418.2.2))) else (some (bt398.1, bt406.1, bt406.2.1, bt406.2.2.1, bt412.2.1, bt412.2.2))))))
set_option maxHeartbeats 8000000 in
set_option maxRecDepth 100000 in
theorem spec_l01Spoil.calls (k : Nat) (g : Nat) (s0_0 : List Int) (s0_1 : Int) (s0_2 : Int) (r1 : Int) (r2 : Int) (r3 : Int) (r4 : Int) (r5 : Int) (r6 : Int) (w0 w : World) (hI : IsS127 w0 w g s0_0 s0_1 s0_2) (hB : Below w0.heap.size w0 w) (h : spec_l01Spoil.f k s0_0 s0_1 s0_2 = some (r1, r2, r3, r4, r5, r6)) :
  Calls Try.prog 99 #[.pointer (some ⟨g, 0, none⟩)] w fun e w' => e = .returned (.tuple #[.int .i64 r1, .agg #[.int .i64 r2, .int .i64 r3, .int .i64 r4]]) ∧ IsS127 w0 w' g s0_0 r5 r6 ∧ Below w0.heap.size w0 w' ∧ KeepBut w w' g none := by
 have hu27 := Try.underlying27
 have HI0 := Aside0.mk hI
 have HK := Aside0.mk (KeepBut.refl w g none)
 have HL := Aside0.mk hB.size
 clear hI
 have HW0 := Aside0.mk hB.size
 have HB := Aside0.mk hB
 clear hB
 unfold spec_l01Spoil.f at h
 have H := h
 clear h
 replace H := zi H
 obtain ⟨⟨t398, t399, t400⟩, A2, H⟩ := H
 try dsimp only at H
 replace H := zi H
 obtain ⟨⟨t401, t402, t403, t404, t405⟩, A3, H⟩ := H
 try dsimp only at H
 replace H := zi H
 obtain ⟨⟨t406, t407, t408, t409, t410⟩, A4, H⟩ := H
 try dsimp only at H
 replace H := zi H
 obtain ⟨⟨t412, t413, t414⟩, A5, H⟩ := H
 try dsimp only at H
 replace H := ii H
 rcases H with ⟨c6, H⟩ | ⟨c6, H⟩
 ·obtain ⟨c6b0, c6b1⟩ := zz c6
  clear c6
  obtain ⟨y415, hy415⟩ : ∃ y_ : List Int, y_ = (([0, 1, 4, 11, (-3)] : List Int)) := ⟨_, rfl⟩
  replace H : ((spec_l01Pick.f s0_0 t413 t414 y415).bind fun bt418 => (some (bt418.1, t406, t407, t408, bt418.2.1, bt418.2.2))) = some (r1, r2, r3, r4, r5, r6) := by first | exact hy415 ▸ H | exact H
  have Ny415 := Aside0.mk hy415
  clear hy415
  replace H := zi H
  obtain ⟨⟨t418, t419, t420⟩, A7, H⟩ := H
  try dsimp only at H
  simp only [Option.some.injEq, Prod.mk.injEq] at H
  obtain ⟨rfl, rfl, rfl, rfl, rfl, rfl⟩ := H
  go_enter Try.func99, Try.ntmps99
  try go_wp2_with (first | ((with_reducible refine zg 3 rfl ?_); refine z3 3 27 0 0 0 ?_; intro gb397 hg w8 BK397 hb; have GW397 := Aside0.mk ((by rw [hg]; exact (keep_size (w := w) (g := g) (row := none) (kl)) : w.heap.size ≤ gb397)); have GE397 := Aside0.mk ((Nat.le_trans HW0.out (by rw [hg]; exact (keep_size (w := w) (g := g) (row := none) (kl)) : w.heap.size ≤ gb397) : w0.heap.size ≤ gb397)); have NB0_397 := Aside0.mk ((by rw [hg]; exact Nat.ne_of_lt (IsS127.lt (IsS127.a : IsS127 w0 _ g s0_0 s0_1 s0_2)) : g ≠ gb397)); have NB397_0 := Aside0.mk ((by rw [hg]; exact Nat.ne_of_gt (IsS127.lt (IsS127.a : IsS127 w0 _ g s0_0 s0_1 s0_2)) : gb397 ≠ g)); replace HK := Aside0.mk (KeepBut.trans (kl) (KeepBut.of_below hb g none) (.inl rfl)); replace HB := Aside0.mk (below_step IsS127.b hb); replace HI0 := Aside0.mk (IsS127.below (IsS127.a) hb); clear hb hg) | ((with_reducible refine zf 145 rfl ?_); refine g1 (some 7) Try.func145 #[.pointer (some ⟨g, 0, none⟩)] ?_; (with_reducible refine (spec_l01DrawPrime.calls g s0_0 s0_1 s0_2 t398 t399 t400 w0 _ ?side1 ?side2 A2.out).mono ?_); (case side1 => exact IsS127.a); (case side2 => exact IsS127.b); rintro e w9 ⟨rfl, hi, hb, hk⟩; refine ⟨_, rfl, ?_⟩; replace BK397 := kb hk BK397 NB397_0; replace HK := Aside0.mk (KeepBut.trans (kl) hk (.inl rfl)); replace HI0 := Aside0.mk (hi); replace HB := Aside0.mk (hb); (try clear hb hk)) | ((with_reducible refine zf 116 rfl ?_); refine g1 (some 11) Try.func116 #[.pointer (some ⟨g, 0, none⟩), .int .i64 t398] ?_; (with_reducible refine (spec_l01Draw.calls k g s0_0 t399 t400 t398 t401 t402 t403 t404 t405 w0 _ ?side1 ?side2 A3.out).mono ?_); (case side1 => exact IsS127.a); (case side2 => exact IsS127.b); rintro e w10 ⟨rfl, hi, hb, hk⟩; refine ⟨_, rfl, ?_⟩; replace BK397 := kb hk BK397 NB397_0; replace HK := Aside0.mk (KeepBut.trans (kl) hk (.inl rfl)); replace HI0 := Aside0.mk (hi); replace HB := Aside0.mk (hb); (try clear hb hk)) | ((with_reducible refine zf 142 rfl ?_); refine g1 (some 12) Try.func142 #[.pointer (some ⟨g, 0, none⟩), .agg #[.int .i64 t401, .int .i64 t402, .int .i64 t403]] ?_; (with_reducible refine (spec_l01Bad.calls g s0_0 t404 t405 t401 t402 t403 t406 t407 t408 t409 t410 w0 _ ?side1 ?side2 A4.out).mono ?_); (case side1 => exact IsS127.a); (case side2 => exact IsS127.b); rintro e w11 ⟨rfl, hi, hb, hk⟩; refine ⟨_, rfl, ?_⟩; replace BK397 := kb hk BK397 NB397_0; replace HK := Aside0.mk (KeepBut.trans (kl) hk (.inl rfl)); replace HI0 := Aside0.mk (hi); replace HB := Aside0.mk (hb); (try clear hb hk)) | ((with_reducible refine zg 5 rfl ?_); refine z3 5 27 0 0 0 ?_; intro gb411 hg w12 BK411 hb; have GW411 := Aside0.mk ((by rw [hg]; exact (keep_size (w := w) (g := g) (row := none) (kl)) : w.heap.size ≤ gb411)); have GE411 := Aside0.mk ((Nat.le_trans HW0.out (by rw [hg]; exact (keep_size (w := w) (g := g) (row := none) (kl)) : w.heap.size ≤ gb411) : w0.heap.size ≤ gb411)); have NB397_411 := nl hg BK397; have NB0_411 := Aside0.mk ((by rw [hg]; exact Nat.ne_of_lt (IsS127.lt (IsS127.a : IsS127 w0 _ g s0_0 t409 t410)) : g ≠ gb411)); have NB411_0 := Aside0.mk ((by rw [hg]; exact Nat.ne_of_gt (IsS127.lt (IsS127.a : IsS127 w0 _ g s0_0 t409 t410)) : gb411 ≠ g)); replace BK397 := bb BK397 hb; replace HK := Aside0.mk (KeepBut.trans (kl) (KeepBut.of_below hb g none) (.inl rfl)); replace HB := Aside0.mk (below_step IsS127.b hb); replace HI0 := Aside0.mk (IsS127.below (IsS127.a) hb); clear hb hg; obtain ⟨hnb13, hnc13⟩ := zm NB397_411; have hnb14 := NB411_0.out; have hnc14 := NB0_411.out; obtain ⟨hcz15_0, hcz15_1, hcz15_2, hfz15_0, hfz15_1, hfz15_2⟩ := cq3 BK411) | ((with_reducible refine zf 101 rfl ?_); refine g1 (some 14) Try.func101 #[.pointer (some ⟨g, 0, none⟩), .int .i64 40] ?_; (with_reducible refine (spec_l01Next.calls g s0_0 t409 t410 40 t412 t413 t414 w0 _ ?side1 ?side2 A5.out).mono ?_); (case side1 => exact IsS127.a); (case side2 => exact IsS127.b); rintro e w16 ⟨rfl, hi, hb, hk⟩; refine ⟨_, rfl, ?_⟩; replace BK397 := Aside0.mk (KeepBut.blk hk (g' := gb397) (o := .cells #[.int .i64 0, .int .i64 0, .int .i64 0] 27 (0, 0)) (bp) NB397_0.out (by simp)); replace BK411 := Aside0.mk (KeepBut.blk hk (g' := gb411) (o := .cells #[.int .i64 t406, .int .i64 t407, .int .i64 t408] 27 (0, 0)) (bp) NB411_0.out (by simp)); replace HK := Aside0.mk (KeepBut.trans (kl) hk (.inl rfl)); replace HI0 := Aside0.mk (hi); replace HB := Aside0.mk (hb); (try clear hb hk)) | ((with_reducible refine zg 17 rfl ?_); refine Kd.R_lit (Kd.int .i64) _ 2 ?hg (N := 17) ?hd (xs := ([0, 1, 4, 11, (-3)] : List Int)) (inner := [.int .i64 0, .int .i64 1, .int .i64 4, .int .i64 11, .int .i64 (-3)]) (ok := fun _ => True) (okp := fun _ => True) ?hr ?hp (fun _ hk => hk) trivial (Below.refl _ _) (Nat.le_refl _) (by simp) ?_; (case hd => rfl); (case hg => rfl); (case hr => first | (go_simp; done) | (go_simp; rfl)); (case hp => exact (Reps.one (show Kd.M (Kd.int .i64) _ _ _ 0 [.int .i64 0] from rfl) (Reps.one (show Kd.M (Kd.int .i64) _ _ _ 1 [.int .i64 1] from rfl) (Reps.one (show Kd.M (Kd.int .i64) _ _ _ 4 [.int .i64 4] from rfl) (Reps.one (show Kd.M (Kd.int .i64) _ _ _ 11 [.int .i64 11] from rfl) (Reps.one (show Kd.M (Kd.int .i64) _ _ _ (-3) [.int .i64 (-3)] from rfl) (Reps.none _ _))))))); intro v416 w17 ho18 hb hg_ hnew_; clear hg_ hnew_; (first | rw [← Ny415.out] at ho18 | (simp only [Int.reduceToNat] at ho18; rw [← Ny415.out] at ho18)); have HO417 := Aside0.mk (Kd.R_lower ho18 (keep_size (w := w) (g := g) (row := none) (kl))); replace BK397 := bb BK397 hb; replace BK411 := bb BK411 hb; replace HK := Aside0.mk (KeepBut.trans (kl) (KeepBut.of_below hb g none) (.inl rfl)); replace HB := Aside0.mk (below_step IsS127.b hb); replace HI0 := Aside0.mk (IsS127.below (IsS127.a) hb); clear hb ho18; obtain ⟨Ao19, co19, eo19⟩ := Kd.R_slice HO417.out; subst eo19) | ((with_reducible refine zf 100 rfl ?_); refine g1 (some 18) Try.func100 #[.pointer (some ⟨g, 0, none⟩), .slice Ao19 y415.length co19] ?_; (with_reducible refine (spec_l01Pick.calls g s0_0 t413 t414 _ _ y415 t418 t419 t420 w0 _ ?side1 ?side2 ?side3 ?side4 ?side5 A7.out).mono ?_); (case side1 => exact IsS127.a); (case side2 => exact IsS127.b); (case side3 => repeat (first | exact (Kd.R_reads' HO417.out).2.2 | (with_reducible refine Kd.C_alloc ?_ _) | (with_reducible refine Kd.C_drewN ?_ _) | (with_reducible refine Kd.C_drew ?_))); (case side4 => exact (Kd.R_reads' HO417.out).2.1); (case side5 => exact far_slice (IsS127.own_ne HI0.out HO417.out (by decide))); rintro e w20 ⟨rfl, hi, hb, hk⟩; refine ⟨_, rfl, ?_⟩; replace BK397 := kb hk BK397 NB397_0; replace BK411 := kb hk BK411 NB411_0; replace HO417 := Aside0.mk (Kd.R_mono (Kd.R_keep (IsS127.apart (IsS127.a : IsS127 w0 _ g s0_0 t413 t414) (by (with_reducible repeat (first | apply Kd.R_alloc | apply Kd.R_drewN | apply Kd.R_drew)); exact HO417.out) (by decide)) hk (fun _ h => h.2)) (fun _ h => h.1)); replace HK := Aside0.mk (KeepBut.trans (kl) hk (.inl rfl)); replace HI0 := Aside0.mk (hi); replace HB := Aside0.mk (hb); (try clear hb hk)))
  replace HO417 := Aside0.mk (Kd.R_drew HO417.out)
  replace BK397 := Aside0.mk (blk_drew BK397.out)
  replace BK411 := Aside0.mk (blk_drew BK411.out)
  replace HI0 := Aside0.mk (IsS127.drew HI0.out)
  replace HK := Aside0.mk (keep_drew HK.out)
  replace HB := Aside0.mk (below_drew1 HB.out)
  refine start_ (n := 4) (S := fun w' => w'.cell? ⟨gb411, 0, none⟩ = some (.int .i64 t406) ∧ w'.cell? ⟨gb411, 1, none⟩ = some (.int .i64 t407) ∧ w'.cell? ⟨gb411, 2, none⟩ = some (.int .i64 t408)) (ds := []) #[false, false, false, false] (by kernel_rfl) rfl rfl ⟨(blk_cell BK411.out 0).trans rfl, (blk_cell BK411.out 1).trans rfl, (blk_cell BK411.out 2).trans rfl⟩ (fun hHeld => ?_)
  generalize w20.drew = w21 at HO417 BK397 BK411 HI0 HK HB hHeld ⊢
  refine pr 0 (some 19) (tA 4 1) ?_
  refine pr 2 (some 2) (tA 4 5) ?_
  refine tr3 1 (some 20) (tA 4 7) hHeld ?_
  refine one_ (i := 3) (N := none) #[true, true, true, true] rfl rfl (by kernel_rfl) (by decide) (fun K hK => ?_)
  have hs22 : w21.cell? ⟨gb397, 0, none⟩ = some (.int .i64 0) := (blk_cell BK397.out 0).trans rfl
  have hfs22 := blk_frozen BK397.out 0
  obtain ⟨hns22_1, hms22_1⟩ := zm NB397_411
  have hs23 : w21.cell? ⟨gb397, 1, none⟩ = some (.int .i64 0) := (blk_cell BK397.out 1).trans rfl
  have hfs23 := blk_frozen BK397.out 1
  obtain ⟨hns23_1, hms23_1⟩ := zm NB397_411
  have hs24 : w21.cell? ⟨gb397, 2, none⟩ = some (.int .i64 0) := (blk_cell BK397.out 2).trans rfl
  have hfs24 := blk_frozen BK397.out 2
  obtain ⟨hns24_1, hms24_1⟩ := zm NB397_411
  refine skip_ (w1 := ?_) (by rfl) rfl ?_ ?_
  rotate_left
  ·go_simp
   rfl
  refine hK.out _ _ (m3 hHeld (fun e => cs gb397 NB397_411 (cs gb397 NB397_411 (cs gb397 NB397_411 e)))) (fun hHeld => ?_)
  clear hK K
  refine done_ (by kernel_rfl) ?_
  try go_wp2
  refine bodyPost_ret (results_tc rfl _ _ gb397 27 #[.int .i64 t406, .int .i64 t407, .int .i64 t408] (0, 0) _ rfl (bp) Try.underlying27 rfl (by kernel_rfl)) rfl ?_
  exact ⟨er, IsS127.a, IsS127.b, kl⟩
 ·obtain ⟨c6b0, c6b1⟩ := zy c6
  simp only [Option.some.injEq, Prod.mk.injEq] at H
  obtain ⟨rfl, rfl, rfl, rfl, rfl, rfl⟩ := H
  go_enter Try.func99, Try.ntmps99
  try go_wp2_with (first | ((with_reducible refine zg 3 rfl ?_); refine z3 3 27 0 0 0 ?_; intro gb397 hg w25 BK397 hb; have GW397 := Aside0.mk ((by rw [hg]; exact (keep_size (w := w) (g := g) (row := none) (kl)) : w.heap.size ≤ gb397)); have GE397 := Aside0.mk ((Nat.le_trans HW0.out (by rw [hg]; exact (keep_size (w := w) (g := g) (row := none) (kl)) : w.heap.size ≤ gb397) : w0.heap.size ≤ gb397)); have NB0_397 := Aside0.mk ((by rw [hg]; exact Nat.ne_of_lt (IsS127.lt (IsS127.a : IsS127 w0 _ g s0_0 s0_1 s0_2)) : g ≠ gb397)); have NB397_0 := Aside0.mk ((by rw [hg]; exact Nat.ne_of_gt (IsS127.lt (IsS127.a : IsS127 w0 _ g s0_0 s0_1 s0_2)) : gb397 ≠ g)); replace HK := Aside0.mk (KeepBut.trans (kl) (KeepBut.of_below hb g none) (.inl rfl)); replace HB := Aside0.mk (below_step IsS127.b hb); replace HI0 := Aside0.mk (IsS127.below (IsS127.a) hb); clear hb hg) | ((with_reducible refine zf 145 rfl ?_); refine g1 (some 7) Try.func145 #[.pointer (some ⟨g, 0, none⟩)] ?_; (with_reducible refine (spec_l01DrawPrime.calls g s0_0 s0_1 s0_2 t398 t399 t400 w0 _ ?side1 ?side2 A2.out).mono ?_); (case side1 => exact IsS127.a); (case side2 => exact IsS127.b); rintro e w26 ⟨rfl, hi, hb, hk⟩; refine ⟨_, rfl, ?_⟩; replace BK397 := kb hk BK397 NB397_0; replace HK := Aside0.mk (KeepBut.trans (kl) hk (.inl rfl)); replace HI0 := Aside0.mk (hi); replace HB := Aside0.mk (hb); (try clear hb hk)) | ((with_reducible refine zf 116 rfl ?_); refine g1 (some 11) Try.func116 #[.pointer (some ⟨g, 0, none⟩), .int .i64 t398] ?_; (with_reducible refine (spec_l01Draw.calls k g s0_0 t399 t400 t398 t401 t402 t403 t404 t405 w0 _ ?side1 ?side2 A3.out).mono ?_); (case side1 => exact IsS127.a); (case side2 => exact IsS127.b); rintro e w27 ⟨rfl, hi, hb, hk⟩; refine ⟨_, rfl, ?_⟩; replace BK397 := kb hk BK397 NB397_0; replace HK := Aside0.mk (KeepBut.trans (kl) hk (.inl rfl)); replace HI0 := Aside0.mk (hi); replace HB := Aside0.mk (hb); (try clear hb hk)) | ((with_reducible refine zf 142 rfl ?_); refine g1 (some 12) Try.func142 #[.pointer (some ⟨g, 0, none⟩), .agg #[.int .i64 t401, .int .i64 t402, .int .i64 t403]] ?_; (with_reducible refine (spec_l01Bad.calls g s0_0 t404 t405 t401 t402 t403 t406 t407 t408 t409 t410 w0 _ ?side1 ?side2 A4.out).mono ?_); (case side1 => exact IsS127.a); (case side2 => exact IsS127.b); rintro e w28 ⟨rfl, hi, hb, hk⟩; refine ⟨_, rfl, ?_⟩; replace BK397 := kb hk BK397 NB397_0; replace HK := Aside0.mk (KeepBut.trans (kl) hk (.inl rfl)); replace HI0 := Aside0.mk (hi); replace HB := Aside0.mk (hb); (try clear hb hk)) | ((with_reducible refine zg 5 rfl ?_); refine z3 5 27 0 0 0 ?_; intro gb411 hg w29 BK411 hb; have GW411 := Aside0.mk ((by rw [hg]; exact (keep_size (w := w) (g := g) (row := none) (kl)) : w.heap.size ≤ gb411)); have GE411 := Aside0.mk ((Nat.le_trans HW0.out (by rw [hg]; exact (keep_size (w := w) (g := g) (row := none) (kl)) : w.heap.size ≤ gb411) : w0.heap.size ≤ gb411)); have NB397_411 := nl hg BK397; have NB0_411 := Aside0.mk ((by rw [hg]; exact Nat.ne_of_lt (IsS127.lt (IsS127.a : IsS127 w0 _ g s0_0 t409 t410)) : g ≠ gb411)); have NB411_0 := Aside0.mk ((by rw [hg]; exact Nat.ne_of_gt (IsS127.lt (IsS127.a : IsS127 w0 _ g s0_0 t409 t410)) : gb411 ≠ g)); replace BK397 := bb BK397 hb; replace HK := Aside0.mk (KeepBut.trans (kl) (KeepBut.of_below hb g none) (.inl rfl)); replace HB := Aside0.mk (below_step IsS127.b hb); replace HI0 := Aside0.mk (IsS127.below (IsS127.a) hb); clear hb hg; obtain ⟨hnb30, hnc30⟩ := zm NB397_411; have hnb31 := NB411_0.out; have hnc31 := NB0_411.out; obtain ⟨hcz32_0, hcz32_1, hcz32_2, hfz32_0, hfz32_1, hfz32_2⟩ := cq3 BK411) | ((with_reducible refine zf 101 rfl ?_); refine g1 (some 14) Try.func101 #[.pointer (some ⟨g, 0, none⟩), .int .i64 40] ?_; (with_reducible refine (spec_l01Next.calls g s0_0 t409 t410 40 t412 t413 t414 w0 _ ?side1 ?side2 A5.out).mono ?_); (case side1 => exact IsS127.a); (case side2 => exact IsS127.b); rintro e w33 ⟨rfl, hi, hb, hk⟩; refine ⟨_, rfl, ?_⟩; replace BK397 := Aside0.mk (KeepBut.blk hk (g' := gb397) (o := .cells #[.int .i64 0, .int .i64 0, .int .i64 0] 27 (0, 0)) (bp) NB397_0.out (by simp)); replace BK411 := Aside0.mk (KeepBut.blk hk (g' := gb411) (o := .cells #[.int .i64 t406, .int .i64 t407, .int .i64 t408] 27 (0, 0)) (bp) NB411_0.out (by simp)); replace HK := Aside0.mk (KeepBut.trans (kl) hk (.inl rfl)); replace HI0 := Aside0.mk (hi); replace HB := Aside0.mk (hb); (try clear hb hk)))
  replace BK397 := Aside0.mk (blk_drew BK397.out)
  replace BK411 := Aside0.mk (blk_drew BK411.out)
  replace HI0 := Aside0.mk (IsS127.drew HI0.out)
  replace HK := Aside0.mk (keep_drew HK.out)
  replace HB := Aside0.mk (below_drew1 HB.out)
  refine start_ (n := 4) (S := fun w' => w'.cell? ⟨gb411, 0, none⟩ = some (.int .i64 t406) ∧ w'.cell? ⟨gb411, 1, none⟩ = some (.int .i64 t407) ∧ w'.cell? ⟨gb411, 2, none⟩ = some (.int .i64 t408)) (ds := []) #[false, false, false, false] (by kernel_rfl) rfl rfl ⟨(blk_cell BK411.out 0).trans rfl, (blk_cell BK411.out 1).trans rfl, (blk_cell BK411.out 2).trans rfl⟩ (fun hHeld => ?_)
  generalize w33.drew = w34 at BK397 BK411 HI0 HK HB hHeld ⊢
  refine pr 0 (some 19) (tA 4 1) ?_
  refine pr 2 (some 2) (tA 4 5) ?_
  refine tr3 1 (some 20) (tA 4 7) hHeld ?_
  refine one_ (i := 3) (N := none) #[true, true, true, true] rfl rfl (by kernel_rfl) (by decide) (fun K hK => ?_)
  have hs35 : w34.cell? ⟨gb397, 0, none⟩ = some (.int .i64 0) := (blk_cell BK397.out 0).trans rfl
  have hfs35 := blk_frozen BK397.out 0
  obtain ⟨hns35_1, hms35_1⟩ := zm NB397_411
  have hs36 : w34.cell? ⟨gb397, 1, none⟩ = some (.int .i64 0) := (blk_cell BK397.out 1).trans rfl
  have hfs36 := blk_frozen BK397.out 1
  obtain ⟨hns36_1, hms36_1⟩ := zm NB397_411
  have hs37 : w34.cell? ⟨gb397, 2, none⟩ = some (.int .i64 0) := (blk_cell BK397.out 2).trans rfl
  have hfs37 := blk_frozen BK397.out 2
  obtain ⟨hns37_1, hms37_1⟩ := zm NB397_411
  refine skip_ (w1 := ?_) (by rfl) rfl ?_ ?_
  rotate_left
  ·go_simp
   rfl
  refine hK.out _ _ (m3 hHeld (fun e => cs gb397 NB397_411 (cs gb397 NB397_411 (cs gb397 NB397_411 e)))) (fun hHeld => ?_)
  clear hK K
  refine done_ (by kernel_rfl) ?_
  try go_wp2
  refine bodyPost_ret (results_tc rfl _ _ gb397 27 #[.int .i64 t406, .int .i64 t407, .int .i64 t408] (0, 0) _ rfl (bp) Try.underlying27 rfl (by kernel_rfl)) rfl ?_
  exact ⟨er, IsS127.a, IsS127.b, kl⟩

/-! ### spec_l02Fine: function 117 -/
def spec_l02Fine.f (a0 : Int) : Option (Int) := (spec_l01Prime.f a0).bind fun t421 => (if t421 = true then (some a0) else (some 3))
set_option maxHeartbeats 8000000 in
set_option maxRecDepth 100000 in
theorem spec_l02Fine.calls (a0 : Int) (r : Int) (w : World) (h : spec_l02Fine.f a0 = some r) :
  Calls Try.prog 117 #[.int .i64 a0] w fun e w' => e = .returned (.int .i64 r) ∧ Drawn0 w w' := by
 unfold spec_l02Fine.f at h
 have H := h
 clear h
 replace H := zi H
 obtain ⟨t421, A2, H⟩ := H
 try dsimp only at H
 by_cases c3 : t421 = true
 ·subst c3
  rw [if_pos rfl] at H
  obtain rfl := Option.some.inj H
  go_enter Try.func117, Try.ntmps117
  go_wp2_with (first | ((with_reducible refine zf 120 rfl ?_); refine g1 (some 4) Try.func120 #[.int .i64 a0] ?_; (with_reducible refine (spec_l01Prime.calls a0 true _ A2.out).mono ?_); rintro e w' ⟨rfl, ⟨nd, rfl⟩⟩; refine ⟨_, rfl, ?_⟩))
  go_ret
  exact zx
 ·replace c3 := Bool.eq_false_iff.mpr c3
  subst c3
  have H1 : (some 3) = some r := by rw [if_neg (show ¬ (false = true) by decide)] at H; exact H
  clear H
  have H := H1
  clear H1
  obtain rfl := Option.some.inj H
  go_enter Try.func117, Try.ntmps117
  go_wp2_with (first | ((with_reducible refine zf 120 rfl ?_); refine g1 (some 4) Try.func120 #[.int .i64 a0] ?_; (with_reducible refine (spec_l01Prime.calls a0 false _ A2.out).mono ?_); rintro e w' ⟨rfl, ⟨nd, rfl⟩⟩; refine ⟨_, rfl, ?_⟩))
  go_ret
  exact zx

end Go.Proofs.Ytpmepopagapeiaa.PFnMedians

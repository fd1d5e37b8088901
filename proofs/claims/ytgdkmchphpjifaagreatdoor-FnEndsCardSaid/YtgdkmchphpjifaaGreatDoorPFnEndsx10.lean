-- Printed by the kit's print and repaired by a program of this session.
import Derived.Test.YtgdkmchphpjifaaGreatDoorPFnEndsx0
import Derived.Test.YtgdkmchphpjifaaGreatDoorPFnEndsx3
import Derived.Test.YtgdkmchphpjifaaGreatDoorPFnEndsx9
namespace Go.Proofs.YtgdkmchphpjifaaGreatDoor.PFnEnds
open Go.RowKit Go.Proofs.YtgdkmchphpjifaaGreatDoorW.PrintWords Go.Proofs.YtgdkmchphpjifaaGreatDoorW.PrintLast Go.Proofs.YtgdkmchphpjifaaGreatDoorW.PrintMore
attribute [local go_sem] max2_int min2_int max_two min_two max_three min_three max_four min_four
set_option linter.unusedVariables false
set_option linter.unusedSimpArgs false

/-! ### spec_l01Spoil: function 38 -/
def spec_l01Spoil.f (k : Nat) (s0_0 : List Int) (s0_1 : Int) (s0_2 : Int) : Option (Int × Int × Int × Int × Int × Int) := (spec_l01DrawPrime.f s0_0 s0_1 s0_2).bind fun bt313 => ((spec_l01Draw.f k s0_0 bt313.2.1 bt313.2.2 bt313.1).bind fun bt316 => ((spec_l01Bad.f s0_0 bt316.2.2.2.1 bt316.2.2.2.2 bt316.1 bt316.2.1 bt316.2.2.1).bind fun bt321 => ((spec_l01Next.f s0_0 bt321.2.2.2.1 bt321.2.2.2.2 40).bind fun bt327 => (if bt327.1 = 0 then ((spec_l01Pick.f s0_0 bt327.2.1 bt327.2.2 (([0, 1, 4, 11, (-3)] : List Int))).bind fun bt333 => (some (bt333.1, bt321.1, bt321.2.1, bt321.2.2.1, bt333.2.1, bt333.2.2))) else (some (bt313.1, bt321.1, bt321.2.1, bt321.2.2.1, bt327.2.1, bt327.2.2))))))
set_option maxHeartbeats 8000000 in
set_option maxRecDepth 100000 in
theorem spec_l01Spoil.calls (k : Nat) (g : Nat) (s0_0 : List Int) (s0_1 : Int) (s0_2 : Int) (r1 : Int) (r2 : Int) (r3 : Int) (r4 : Int) (r5 : Int) (r6 : Int) (w0 w : World) (hI : IsS79 w0 w g s0_0 s0_1 s0_2) (hB : Below w0.heap.size w0 w) (h : spec_l01Spoil.f k s0_0 s0_1 s0_2 = some (r1, r2, r3, r4, r5, r6)) :
  Calls Tryz.prog 38 #[.pointer (some ⟨g, 0, none⟩)] w fun e w' => e = .returned (.tuple #[.int .i64 r1, .agg #[.int .i64 r2, .int .i64 r3, .int .i64 r4]]) ∧ IsS79 w0 w' g s0_0 r5 r6 ∧ Below w0.heap.size w0 w' ∧ KeepBut w w' g none := by
 have hu35 := Tryz.underlying35
 have HI0 := Aside0.mk hI
 have HK := Aside0.mk (KeepBut.refl w g none)
 have HL := Aside0.mk hB.size
 clear hI
 have HW0 := Aside0.mk hB.size
 have HB := Aside0.mk hB
 clear hB
 unfold spec_l01Spoil.f at h
 have H := h
 clear h
 replace H := zi H
 obtain ⟨⟨t313, t314, t315⟩, A2, H⟩ := H
 try dsimp only at H
 replace H := zi H
 obtain ⟨⟨t316, t317, t318, t319, t320⟩, A3, H⟩ := H
 try dsimp only at H
 replace H := zi H
 obtain ⟨⟨t321, t322, t323, t324, t325⟩, A4, H⟩ := H
 try dsimp only at H
 replace H := zi H
 obtain ⟨⟨t327, t328, t329⟩, A5, H⟩ := H
 try dsimp only at H
 replace H := ii H
 rcases H with ⟨c6, H⟩ | ⟨c6, H⟩
 ·obtain ⟨c6b0, c6b1⟩ := zz c6
  clear c6
  obtain ⟨y330, hy330⟩ : ∃ y_ : List Int, y_ = (([0, 1, 4, 11, (-3)] : List Int)) := ⟨_, rfl⟩
  replace H : ((spec_l01Pick.f s0_0 t328 t329 y330).bind fun bt333 => (some (bt333.1, t321, t322, t323, bt333.2.1, bt333.2.2))) = some (r1, r2, r3, r4, r5, r6) := by first | exact hy330 ▸ H | exact H
  have Ny330 := Aside0.mk hy330
  clear hy330
  replace H := zi H
  obtain ⟨⟨t333, t334, t335⟩, A7, H⟩ := H
  try dsimp only at H
  simp only [Option.some.injEq, Prod.mk.injEq] at H
  obtain ⟨rfl, rfl, rfl, rfl, rfl, rfl⟩ := H
  go_enter Tryz.func38, Tryz.ntmps38
  try go_wp2_with (first | ((with_reducible refine zg 3 rfl ?_); refine z3 3 35 0 0 0 ?_; intro gb312 hg w8 BK312 hb; have GW312 := Aside0.mk ((by rw [hg]; exact (keep_size (w := w) (g := g) (row := none) (kl)) : w.heap.size ≤ gb312)); have GE312 := Aside0.mk ((Nat.le_trans HW0.out (by rw [hg]; exact (keep_size (w := w) (g := g) (row := none) (kl)) : w.heap.size ≤ gb312) : w0.heap.size ≤ gb312)); have NB0_312 := Aside0.mk ((by rw [hg]; exact Nat.ne_of_lt (IsS79.lt (IsS79.a : IsS79 w0 _ g s0_0 s0_1 s0_2)) : g ≠ gb312)); have NB312_0 := Aside0.mk ((by rw [hg]; exact Nat.ne_of_gt (IsS79.lt (IsS79.a : IsS79 w0 _ g s0_0 s0_1 s0_2)) : gb312 ≠ g)); replace HK := Aside0.mk (KeepBut.trans (kl) (KeepBut.of_below hb g none) (.inl rfl)); replace HB := Aside0.mk (below_step IsS79.b hb); replace HI0 := Aside0.mk (IsS79.below (IsS79.a) hb); clear hb hg) | ((with_reducible refine zf 62 rfl ?_); refine g1 (some 7) Tryz.func62 #[.pointer (some ⟨g, 0, none⟩)] ?_; (with_reducible refine (spec_l01DrawPrime.calls g s0_0 s0_1 s0_2 t313 t314 t315 w0 _ ?side1 ?side2 A2.out).mono ?_); (case side1 => exact IsS79.a); (case side2 => exact IsS79.b); rintro e w9 ⟨rfl, hi, hb, hk⟩; refine ⟨_, rfl, ?_⟩; replace BK312 := kb hk BK312 NB312_0; replace HK := Aside0.mk (KeepBut.trans (kl) hk (.inl rfl)); replace HI0 := Aside0.mk (hi); replace HB := Aside0.mk (hb); (try clear hb hk)) | ((with_reducible refine zf 64 rfl ?_); refine g1 (some 11) Tryz.func64 #[.pointer (some ⟨g, 0, none⟩), .int .i64 t313] ?_; (with_reducible refine (spec_l01Draw.calls k g s0_0 t314 t315 t313 t316 t317 t318 t319 t320 w0 _ ?side1 ?side2 A3.out).mono ?_); (case side1 => exact IsS79.a); (case side2 => exact IsS79.b); rintro e w10 ⟨rfl, hi, hb, hk⟩; refine ⟨_, rfl, ?_⟩; replace BK312 := kb hk BK312 NB312_0; replace HK := Aside0.mk (KeepBut.trans (kl) hk (.inl rfl)); replace HI0 := Aside0.mk (hi); replace HB := Aside0.mk (hb); (try clear hb hk)) | ((with_reducible refine zf 63 rfl ?_); refine g1 (some 12) Tryz.func63 #[.pointer (some ⟨g, 0, none⟩), .agg #[.int .i64 t316, .int .i64 t317, .int .i64 t318]] ?_; (with_reducible refine (spec_l01Bad.calls g s0_0 t319 t320 t316 t317 t318 t321 t322 t323 t324 t325 w0 _ ?side1 ?side2 A4.out).mono ?_); (case side1 => exact IsS79.a); (case side2 => exact IsS79.b); rintro e w11 ⟨rfl, hi, hb, hk⟩; refine ⟨_, rfl, ?_⟩; replace BK312 := kb hk BK312 NB312_0; replace HK := Aside0.mk (KeepBut.trans (kl) hk (.inl rfl)); replace HI0 := Aside0.mk (hi); replace HB := Aside0.mk (hb); (try clear hb hk)) | ((with_reducible refine zg 5 rfl ?_); refine z3 5 35 0 0 0 ?_; intro gb326 hg w12 BK326 hb; have GW326 := Aside0.mk ((by rw [hg]; exact (keep_size (w := w) (g := g) (row := none) (kl)) : w.heap.size ≤ gb326)); have GE326 := Aside0.mk ((Nat.le_trans HW0.out (by rw [hg]; exact (keep_size (w := w) (g := g) (row := none) (kl)) : w.heap.size ≤ gb326) : w0.heap.size ≤ gb326)); have NB312_326 := nl hg BK312; have NB0_326 := Aside0.mk ((by rw [hg]; exact Nat.ne_of_lt (IsS79.lt (IsS79.a : IsS79 w0 _ g s0_0 t324 t325)) : g ≠ gb326)); have NB326_0 := Aside0.mk ((by rw [hg]; exact Nat.ne_of_gt (IsS79.lt (IsS79.a : IsS79 w0 _ g s0_0 t324 t325)) : gb326 ≠ g)); replace BK312 := bb BK312 hb; replace HK := Aside0.mk (KeepBut.trans (kl) (KeepBut.of_below hb g none) (.inl rfl)); replace HB := Aside0.mk (below_step IsS79.b hb); replace HI0 := Aside0.mk (IsS79.below (IsS79.a) hb); clear hb hg; obtain ⟨hnb13, hnc13⟩ := zm NB312_326; have hnb14 := NB326_0.out; have hnc14 := NB0_326.out; obtain ⟨hcz15_0, hcz15_1, hcz15_2, hfz15_0, hfz15_1, hfz15_2⟩ := cq3 BK326) | ((with_reducible refine zf 44 rfl ?_); refine g1 (some 14) Tryz.func44 #[.pointer (some ⟨g, 0, none⟩), .int .i64 40] ?_; (with_reducible refine (spec_l01Next.calls g s0_0 t324 t325 40 t327 t328 t329 w0 _ ?side1 ?side2 A5.out).mono ?_); (case side1 => exact IsS79.a); (case side2 => exact IsS79.b); rintro e w16 ⟨rfl, hi, hb, hk⟩; refine ⟨_, rfl, ?_⟩; replace BK312 := Aside0.mk (KeepBut.blk hk (g' := gb312) (o := .cells #[.int .i64 0, .int .i64 0, .int .i64 0] 35 (0, 0)) (bp) NB312_0.out (by simp)); replace BK326 := Aside0.mk (KeepBut.blk hk (g' := gb326) (o := .cells #[.int .i64 t321, .int .i64 t322, .int .i64 t323] 35 (0, 0)) (bp) NB326_0.out (by simp)); replace HK := Aside0.mk (KeepBut.trans (kl) hk (.inl rfl)); replace HI0 := Aside0.mk (hi); replace HB := Aside0.mk (hb); (try clear hb hk)) | ((with_reducible refine zg 17 rfl ?_); refine Kd.R_lit (Kd.int .i64) _ 2 ?hg (N := 17) ?hd (xs := ([0, 1, 4, 11, (-3)] : List Int)) (inner := [.int .i64 0, .int .i64 1, .int .i64 4, .int .i64 11, .int .i64 (-3)]) (ok := fun _ => True) (okp := fun _ => True) ?hr ?hp (fun _ hk => hk) trivial (Below.refl _ _) (Nat.le_refl _) (by simp) ?_; (case hd => rfl); (case hg => rfl); (case hr => first | (go_simp; done) | (go_simp; rfl)); (case hp => exact (Reps.one (show Kd.M (Kd.int .i64) _ _ _ 0 [.int .i64 0] from rfl) (Reps.one (show Kd.M (Kd.int .i64) _ _ _ 1 [.int .i64 1] from rfl) (Reps.one (show Kd.M (Kd.int .i64) _ _ _ 4 [.int .i64 4] from rfl) (Reps.one (show Kd.M (Kd.int .i64) _ _ _ 11 [.int .i64 11] from rfl) (Reps.one (show Kd.M (Kd.int .i64) _ _ _ (-3) [.int .i64 (-3)] from rfl) (Reps.none _ _))))))); intro v331 w17 ho18 hb hg_ hnew_; clear hg_ hnew_; (first | rw [← Ny330.out] at ho18 | (simp only [Int.reduceToNat] at ho18; rw [← Ny330.out] at ho18)); have HO332 := Aside0.mk (Kd.R_lower ho18 (keep_size (w := w) (g := g) (row := none) (kl))); replace BK312 := bb BK312 hb; replace BK326 := bb BK326 hb; replace HK := Aside0.mk (KeepBut.trans (kl) (KeepBut.of_below hb g none) (.inl rfl)); replace HB := Aside0.mk (below_step IsS79.b hb); replace HI0 := Aside0.mk (IsS79.below (IsS79.a) hb); clear hb ho18; obtain ⟨Ao19, co19, eo19⟩ := Kd.R_slice HO332.out; subst eo19) | ((with_reducible refine zf 28 rfl ?_); refine g1 (some 18) Tryz.func28 #[.pointer (some ⟨g, 0, none⟩), .slice Ao19 y330.length co19] ?_; (with_reducible refine (spec_l01Pick.calls g s0_0 t328 t329 _ _ y330 t333 t334 t335 w0 _ ?side1 ?side2 ?side3 ?side4 ?side5 A7.out).mono ?_); (case side1 => exact IsS79.a); (case side2 => exact IsS79.b); (case side3 => repeat (first | exact (Kd.R_reads' HO332.out).2.2 | (with_reducible refine Kd.C_alloc ?_ _) | (with_reducible refine Kd.C_drewN ?_ _) | (with_reducible refine Kd.C_drew ?_))); (case side4 => exact (Kd.R_reads' HO332.out).2.1); (case side5 => exact far_slice (IsS79.own_ne HI0.out HO332.out (by decide))); rintro e w20 ⟨rfl, hi, hb, hk⟩; refine ⟨_, rfl, ?_⟩; replace BK312 := kb hk BK312 NB312_0; replace BK326 := kb hk BK326 NB326_0; replace HO332 := Aside0.mk (Kd.R_mono (Kd.R_keep (IsS79.apart (IsS79.a : IsS79 w0 _ g s0_0 t328 t329) (by (with_reducible repeat (first | apply Kd.R_alloc | apply Kd.R_drewN | apply Kd.R_drew)); exact HO332.out) (by decide)) hk (fun _ h => h.2)) (fun _ h => h.1)); replace HK := Aside0.mk (KeepBut.trans (kl) hk (.inl rfl)); replace HI0 := Aside0.mk (hi); replace HB := Aside0.mk (hb); (try clear hb hk)))
  replace HO332 := Aside0.mk (Kd.R_drew HO332.out)
  replace BK312 := Aside0.mk (blk_drew BK312.out)
  replace BK326 := Aside0.mk (blk_drew BK326.out)
  replace HI0 := Aside0.mk (IsS79.drew HI0.out)
  replace HK := Aside0.mk (keep_drew HK.out)
  replace HB := Aside0.mk (below_drew1 HB.out)
  refine start_ (n := 4) (S := fun w' => w'.cell? ⟨gb326, 0, none⟩ = some (.int .i64 t321) ∧ w'.cell? ⟨gb326, 1, none⟩ = some (.int .i64 t322) ∧ w'.cell? ⟨gb326, 2, none⟩ = some (.int .i64 t323)) (ds := []) #[false, false, false, false] (by kernel_rfl) rfl rfl ⟨(blk_cell BK326.out 0).trans rfl, (blk_cell BK326.out 1).trans rfl, (blk_cell BK326.out 2).trans rfl⟩ (fun hHeld => ?_)
  generalize w20.drew = w21 at HO332 BK312 BK326 HI0 HK HB hHeld ⊢
  refine pr 0 (some 19) (tA 4 1) ?_
  refine pr 2 (some 2) (tA 4 5) ?_
  refine tr3 1 (some 20) (tA 4 7) hHeld ?_
  refine one_ (i := 3) (N := none) #[true, true, true, true] rfl rfl (by kernel_rfl) (by decide) (fun K hK => ?_)
  have hs22 : w21.cell? ⟨gb312, 0, none⟩ = some (.int .i64 0) := (blk_cell BK312.out 0).trans rfl
  have hfs22 := blk_frozen BK312.out 0
  obtain ⟨hns22_1, hms22_1⟩ := zm NB312_326
  have hs23 : w21.cell? ⟨gb312, 1, none⟩ = some (.int .i64 0) := (blk_cell BK312.out 1).trans rfl
  have hfs23 := blk_frozen BK312.out 1
  obtain ⟨hns23_1, hms23_1⟩ := zm NB312_326
  have hs24 : w21.cell? ⟨gb312, 2, none⟩ = some (.int .i64 0) := (blk_cell BK312.out 2).trans rfl
  have hfs24 := blk_frozen BK312.out 2
  obtain ⟨hns24_1, hms24_1⟩ := zm NB312_326
  refine skip_ (w1 := ?_) (by rfl) rfl ?_ ?_
  rotate_left
  ·go_simp
   rfl
  refine hK.out _ _ (m3 hHeld (fun e => cs gb312 NB312_326 (cs gb312 NB312_326 (cs gb312 NB312_326 e)))) (fun hHeld => ?_)
  clear hK K
  refine done_ (by kernel_rfl) ?_
  try go_wp2
  refine bodyPost_ret (results_tc rfl _ _ gb312 35 #[.int .i64 t321, .int .i64 t322, .int .i64 t323] (0, 0) _ rfl (bp) Tryz.underlying35 rfl (by kernel_rfl)) rfl ?_
  exact ⟨er, IsS79.a, IsS79.b, kl⟩
 ·obtain ⟨c6b0, c6b1⟩ := zy c6
  simp only [Option.some.injEq, Prod.mk.injEq] at H
  obtain ⟨rfl, rfl, rfl, rfl, rfl, rfl⟩ := H
  go_enter Tryz.func38, Tryz.ntmps38
  try go_wp2_with (first | ((with_reducible refine zg 3 rfl ?_); refine z3 3 35 0 0 0 ?_; intro gb312 hg w25 BK312 hb; have GW312 := Aside0.mk ((by rw [hg]; exact (keep_size (w := w) (g := g) (row := none) (kl)) : w.heap.size ≤ gb312)); have GE312 := Aside0.mk ((Nat.le_trans HW0.out (by rw [hg]; exact (keep_size (w := w) (g := g) (row := none) (kl)) : w.heap.size ≤ gb312) : w0.heap.size ≤ gb312)); have NB0_312 := Aside0.mk ((by rw [hg]; exact Nat.ne_of_lt (IsS79.lt (IsS79.a : IsS79 w0 _ g s0_0 s0_1 s0_2)) : g ≠ gb312)); have NB312_0 := Aside0.mk ((by rw [hg]; exact Nat.ne_of_gt (IsS79.lt (IsS79.a : IsS79 w0 _ g s0_0 s0_1 s0_2)) : gb312 ≠ g)); replace HK := Aside0.mk (KeepBut.trans (kl) (KeepBut.of_below hb g none) (.inl rfl)); replace HB := Aside0.mk (below_step IsS79.b hb); replace HI0 := Aside0.mk (IsS79.below (IsS79.a) hb); clear hb hg) | ((with_reducible refine zf 62 rfl ?_); refine g1 (some 7) Tryz.func62 #[.pointer (some ⟨g, 0, none⟩)] ?_; (with_reducible refine (spec_l01DrawPrime.calls g s0_0 s0_1 s0_2 t313 t314 t315 w0 _ ?side1 ?side2 A2.out).mono ?_); (case side1 => exact IsS79.a); (case side2 => exact IsS79.b); rintro e w26 ⟨rfl, hi, hb, hk⟩; refine ⟨_, rfl, ?_⟩; replace BK312 := kb hk BK312 NB312_0; replace HK := Aside0.mk (KeepBut.trans (kl) hk (.inl rfl)); replace HI0 := Aside0.mk (hi); replace HB := Aside0.mk (hb); (try clear hb hk)) | ((with_reducible refine zf 64 rfl ?_); refine g1 (some 11) Tryz.func64 #[.pointer (some ⟨g, 0, none⟩), .int .i64 t313] ?_; (with_reducible refine (spec_l01Draw.calls k g s0_0 t314 t315 t313 t316 t317 t318 t319 t320 w0 _ ?side1 ?side2 A3.out).mono ?_); (case side1 => exact IsS79.a); (case side2 => exact IsS79.b); rintro e w27 ⟨rfl, hi, hb, hk⟩; refine ⟨_, rfl, ?_⟩; replace BK312 := kb hk BK312 NB312_0; replace HK := Aside0.mk (KeepBut.trans (kl) hk (.inl rfl)); replace HI0 := Aside0.mk (hi); replace HB := Aside0.mk (hb); (try clear hb hk)) | ((with_reducible refine zf 63 rfl ?_); refine g1 (some 12) Tryz.func63 #[.pointer (some ⟨g, 0, none⟩), .agg #[.int .i64 t316, .int .i64 t317, .int .i64 t318]] ?_; (with_reducible refine (spec_l01Bad.calls g s0_0 t319 t320 t316 t317 t318 t321 t322 t323 t324 t325 w0 _ ?side1 ?side2 A4.out).mono ?_); (case side1 => exact IsS79.a); (case side2 => exact IsS79.b); rintro e w28 ⟨rfl, hi, hb, hk⟩; refine ⟨_, rfl, ?_⟩; replace BK312 := kb hk BK312 NB312_0; replace HK := Aside0.mk (KeepBut.trans (kl) hk (.inl rfl)); replace HI0 := Aside0.mk (hi); replace HB := Aside0.mk (hb); (try clear hb hk)) | ((with_reducible refine zg 5 rfl ?_); refine z3 5 35 0 0 0 ?_; intro gb326 hg w29 BK326 hb; have GW326 := Aside0.mk ((by rw [hg]; exact (keep_size (w := w) (g := g) (row := none) (kl)) : w.heap.size ≤ gb326)); have GE326 := Aside0.mk ((Nat.le_trans HW0.out (by rw [hg]; exact (keep_size (w := w) (g := g) (row := none) (kl)) : w.heap.size ≤ gb326) : w0.heap.size ≤ gb326)); have NB312_326 := nl hg BK312; have NB0_326 := Aside0.mk ((by rw [hg]; exact Nat.ne_of_lt (IsS79.lt (IsS79.a : IsS79 w0 _ g s0_0 t324 t325)) : g ≠ gb326)); have NB326_0 := Aside0.mk ((by rw [hg]; exact Nat.ne_of_gt (IsS79.lt (IsS79.a : IsS79 w0 _ g s0_0 t324 t325)) : gb326 ≠ g)); replace BK312 := bb BK312 hb; replace HK := Aside0.mk (KeepBut.trans (kl) (KeepBut.of_below hb g none) (.inl rfl)); replace HB := Aside0.mk (below_step IsS79.b hb); replace HI0 := Aside0.mk (IsS79.below (IsS79.a) hb); clear hb hg; obtain ⟨hnb30, hnc30⟩ := zm NB312_326; have hnb31 := NB326_0.out; have hnc31 := NB0_326.out; obtain ⟨hcz32_0, hcz32_1, hcz32_2, hfz32_0, hfz32_1, hfz32_2⟩ := cq3 BK326) | ((with_reducible refine zf 44 rfl ?_); refine g1 (some 14) Tryz.func44 #[.pointer (some ⟨g, 0, none⟩), .int .i64 40] ?_; (with_reducible refine (spec_l01Next.calls g s0_0 t324 t325 40 t327 t328 t329 w0 _ ?side1 ?side2 A5.out).mono ?_); (case side1 => exact IsS79.a); (case side2 => exact IsS79.b); rintro e w33 ⟨rfl, hi, hb, hk⟩; refine ⟨_, rfl, ?_⟩; replace BK312 := Aside0.mk (KeepBut.blk hk (g' := gb312) (o := .cells #[.int .i64 0, .int .i64 0, .int .i64 0] 35 (0, 0)) (bp) NB312_0.out (by simp)); replace BK326 := Aside0.mk (KeepBut.blk hk (g' := gb326) (o := .cells #[.int .i64 t321, .int .i64 t322, .int .i64 t323] 35 (0, 0)) (bp) NB326_0.out (by simp)); replace HK := Aside0.mk (KeepBut.trans (kl) hk (.inl rfl)); replace HI0 := Aside0.mk (hi); replace HB := Aside0.mk (hb); (try clear hb hk)))
  replace BK312 := Aside0.mk (blk_drew BK312.out)
  replace BK326 := Aside0.mk (blk_drew BK326.out)
  replace HI0 := Aside0.mk (IsS79.drew HI0.out)
  replace HK := Aside0.mk (keep_drew HK.out)
  replace HB := Aside0.mk (below_drew1 HB.out)
  refine start_ (n := 4) (S := fun w' => w'.cell? ⟨gb326, 0, none⟩ = some (.int .i64 t321) ∧ w'.cell? ⟨gb326, 1, none⟩ = some (.int .i64 t322) ∧ w'.cell? ⟨gb326, 2, none⟩ = some (.int .i64 t323)) (ds := []) #[false, false, false, false] (by kernel_rfl) rfl rfl ⟨(blk_cell BK326.out 0).trans rfl, (blk_cell BK326.out 1).trans rfl, (blk_cell BK326.out 2).trans rfl⟩ (fun hHeld => ?_)
  generalize w33.drew = w34 at BK312 BK326 HI0 HK HB hHeld ⊢
  refine pr 0 (some 19) (tA 4 1) ?_
  refine pr 2 (some 2) (tA 4 5) ?_
  refine tr3 1 (some 20) (tA 4 7) hHeld ?_
  refine one_ (i := 3) (N := none) #[true, true, true, true] rfl rfl (by kernel_rfl) (by decide) (fun K hK => ?_)
  have hs35 : w34.cell? ⟨gb312, 0, none⟩ = some (.int .i64 0) := (blk_cell BK312.out 0).trans rfl
  have hfs35 := blk_frozen BK312.out 0
  obtain ⟨hns35_1, hms35_1⟩ := zm NB312_326
  have hs36 : w34.cell? ⟨gb312, 1, none⟩ = some (.int .i64 0) := (blk_cell BK312.out 1).trans rfl
  have hfs36 := blk_frozen BK312.out 1
  obtain ⟨hns36_1, hms36_1⟩ := zm NB312_326
  have hs37 : w34.cell? ⟨gb312, 2, none⟩ = some (.int .i64 0) := (blk_cell BK312.out 2).trans rfl
  have hfs37 := blk_frozen BK312.out 2
  obtain ⟨hns37_1, hms37_1⟩ := zm NB312_326
  refine skip_ (w1 := ?_) (by rfl) rfl ?_ ?_
  rotate_left
  ·go_simp
   rfl
  refine hK.out _ _ (m3 hHeld (fun e => cs gb312 NB312_326 (cs gb312 NB312_326 (cs gb312 NB312_326 e)))) (fun hHeld => ?_)
  clear hK K
  refine done_ (by kernel_rfl) ?_
  try go_wp2
  refine bodyPost_ret (results_tc rfl _ _ gb312 35 #[.int .i64 t321, .int .i64 t322, .int .i64 t323] (0, 0) _ rfl (bp) Tryz.underlying35 rfl (by kernel_rfl)) rfl ?_
  exact ⟨er, IsS79.a, IsS79.b, kl⟩

/-! ### spec_DrawBallText: function 11 -/
def spec_DrawBallText.f (k : Nat) (l0 : List Int) : Option (Int × Int × Int × Int) := (spec_l01From.f k l0).bind fun bt337 => ((spec_l01Spoil.f k bt337.1 bt337.2.1 bt337.2.2).bind fun bt341 => (some (bt341.1, bt341.2.1, bt341.2.2.1, bt341.2.2.2.1)))
set_option maxHeartbeats 8000000 in
set_option maxRecDepth 100000 in
theorem spec_DrawBallText.calls (k : Nat) (A0 : Option Addr) (c0 : Nat) (l0 : List Int) (r1 : Int) (r2 : Int) (r3 : Int) (r4 : Int) (w : World) (hr0 : Kd.C (Kd.int .u8) w A0 l0.length l0) (hc0 : l0.length ≤ c0) (h : spec_DrawBallText.f k l0 = some (r1, r2, r3, r4)) :
  Calls Tryz.prog 11 #[.slice A0 l0.length c0] w fun e w' => e = .returned (.tuple #[.int .i64 r1, .agg #[.int .i64 r2, .int .i64 r3, .int .i64 r4]]) ∧ Below w.heap.size w w' := by
 have hu35 := Tryz.underlying35
 have HR0 := Aside0.mk hr0
 have HC0 := Aside0.mk hc0
 clear hr0 hc0
 have HB := Aside0.mk (Below.refl w.heap.size w)
 unfold spec_DrawBallText.f at h
 have H := h
 clear h
 replace H := zi H
 obtain ⟨⟨t337, t338, t339⟩, A2, H⟩ := H
 try dsimp only at H
 replace H := zi H
 obtain ⟨⟨t341, t342, t343, t344, t345, t346⟩, A3, H⟩ := H
 try dsimp only at H
 simp only [Option.some.injEq, Prod.mk.injEq] at H
 obtain ⟨rfl, rfl, rfl, rfl⟩ := H
 go_enter Tryz.func11, Tryz.ntmps11
 try go_wp2_with (first | ((with_reducible refine zg 3 rfl ?_); refine z3 3 35 0 0 0 ?_; intro gb336 hg w4 BK336 hb; have GW336 := sg hg; replace HB := bs hb; clear hb hg) | ((with_reducible refine zf 26 rfl ?_); refine g1 (some 8) Tryz.func26 #[.slice A0 l0.length c0] ?_; (with_reducible refine (spec_l01From.calls k _ _ l0 t337 t338 t339 w _ ?side1 ?side2 ?side3 A2.out).mono ?_); (case side1 => exact bl); (case side2 => exact HR0.out); (case side3 => exact HC0.out); rintro e w5 ⟨g340, rfl, hi, hb, hb2⟩; refine ⟨_, rfl, ?_⟩; have HI340 := Aside0.mk (hi); have NB340_336 := Aside0.mk (IsS79.ne_blk hi (blk_below (g := gb336) (o := .cells #[.int .i64 0, .int .i64 0, .int .i64 0] 35 (0, 0)) (be BK336) hb2) (by decide)); have NB336_340 := Aside0.mk (Ne.symm (IsS79.ne_blk hi (blk_below (g := gb336) (o := .cells #[.int .i64 0, .int .i64 0, .int .i64 0] 35 (0, 0)) (be BK336) hb2) (by decide))); replace BK336 := Aside0.mk (blk_below (g := gb336) (o := .cells #[.int .i64 0, .int .i64 0, .int .i64 0] 35 (0, 0)) (be BK336) hb2); replace HB := Aside0.mk (hb); (try clear hb); (try clear hb2); (try clear hk); (try clear hi)) | ((with_reducible refine zf 38 rfl ?_); refine g1 (some 9) Tryz.func38 #[.pointer (some ⟨g340, 0, none⟩)] ?_; (with_reducible refine (spec_l01Spoil.calls k g340 t337 t338 t339 t341 t342 t343 t344 t345 t346 w _ ?side1 ?side2 A3.out).mono ?_); (case side1 => repeat (first | (with_reducible first | exact HI340.out | apply IsS79.alloc | apply IsS79.drewN | apply IsS79.drew | apply IsS79.set_1 | apply IsS79.set_2 | refine IsS79.far ?_ NB340_336.out _) | exact HI340.out)); (case side2 => repeat (first | (with_reducible first | exact HB.out | apply below_alloc | apply pw_below_drewN | apply below_drew1 | refine below_set ?_ (IsS79.ge HI340.out) | refine below_set ?_ GW336.out) | exact HB.out)); rintro e w6 ⟨rfl, hi, hb, hk⟩; refine ⟨_, rfl, ?_⟩; replace BK336 := kb hk BK336 NB336_340; replace HI340 := Aside0.mk (hi); replace HB := Aside0.mk (hb); (try clear hb hk)) | ((with_reducible refine zg 5 rfl ?_); refine z3 5 35 0 0 0 ?_; intro gb347 hg w7 BK347 hb; have GW347 := Aside0.mk ((by rw [hg]; exact (below_size (by repeat (first | (with_reducible first | exact HB.out | apply below_alloc | apply pw_below_drewN | apply below_drew1 | refine below_set ?_ (IsS79.ge HI340.out) | refine below_set ?_ GW336.out) | exact HB.out))) : w.heap.size ≤ gb347)); have GE347 := Aside0.mk ((by rw [hg]; exact (below_size (by repeat (first | (with_reducible first | exact HB.out | apply below_alloc | apply pw_below_drewN | apply below_drew1 | refine below_set ?_ (IsS79.ge HI340.out) | refine below_set ?_ GW336.out) | exact HB.out))) : w.heap.size ≤ gb347)); have NB336_347 := nl hg BK336; have NB340_347 := Aside0.mk ((by rw [hg]; exact Nat.ne_of_lt (IsS79.lt (show IsS79 w _ g340 t337 t345 t346 from by repeat (first | (with_reducible first | exact HI340.out | apply IsS79.alloc | apply IsS79.drewN | apply IsS79.drew | apply IsS79.set_1 | apply IsS79.set_2 | refine IsS79.far ?_ NB340_336.out _) | exact HI340.out))) : g340 ≠ gb347)); have NB347_340 := Aside0.mk ((by rw [hg]; exact Nat.ne_of_gt (IsS79.lt (show IsS79 w _ g340 t337 t345 t346 from by repeat (first | (with_reducible first | exact HI340.out | apply IsS79.alloc | apply IsS79.drewN | apply IsS79.drew | apply IsS79.set_1 | apply IsS79.set_2 | refine IsS79.far ?_ NB340_336.out _) | exact HI340.out))) : gb347 ≠ g340)); replace BK336 := bb BK336 hb; replace HB := Aside0.mk (below_step (by repeat (first | (with_reducible first | exact HB.out | apply below_alloc | apply pw_below_drewN | apply below_drew1 | refine below_set ?_ (IsS79.ge HI340.out) | refine below_set ?_ GW336.out) | exact HB.out)) hb); replace HI340 := Aside0.mk (IsS79.below (by repeat (first | (with_reducible first | exact HI340.out | apply IsS79.alloc | apply IsS79.drewN | apply IsS79.drew | apply IsS79.set_1 | apply IsS79.set_2 | refine IsS79.far ?_ NB340_336.out _) | exact HI340.out)) hb); clear hb hg; obtain ⟨hnb8, hnc8⟩ := zm NB336_347; have hnb9 := NB347_340.out; have hnc9 := NB340_347.out; obtain ⟨hcz10_0, hcz10_1, hcz10_2, hfz10_0, hfz10_1, hfz10_2⟩ := cq3 BK347))
 have n0_ : Aside0 ((((w7.setCell ⟨gb347, 0, none⟩ (.int .i64 t342)).setCell ⟨gb347, 1, none⟩ (.int .i64 t343)).setCell ⟨gb347, 2, none⟩ (.int .i64 t344)).heap[gb336]? = some (.cells #[.int .i64 0, .int .i64 0, .int .i64 0] 35 (0, 0))) := ⟨bp⟩
 have n1_ : Aside0 ((((w7.setCell ⟨gb347, 0, none⟩ (.int .i64 t342)).setCell ⟨gb347, 1, none⟩ (.int .i64 t343)).setCell ⟨gb347, 2, none⟩ (.int .i64 t344)).heap[gb347]? = some (.cells #[.int .i64 t342, .int .i64 t343, .int .i64 t344] 35 (0, 0))) := ⟨bp⟩
 have n2_ : Aside0 (IsS79 w (((w7.setCell ⟨gb347, 0, none⟩ (.int .i64 t342)).setCell ⟨gb347, 1, none⟩ (.int .i64 t343)).setCell ⟨gb347, 2, none⟩ (.int .i64 t344)) g340 t337 t345 t346) := ⟨by repeat (first | (with_reducible first | exact HI340.out | apply IsS79.alloc | apply IsS79.drewN | apply IsS79.drew | apply IsS79.set_1 | apply IsS79.set_2 | refine IsS79.far ?_ NB340_336.out _ | refine IsS79.far ?_ NB340_347.out _) | exact HI340.out)⟩
 have n3_ : Aside0 (Below w.heap.size w (((w7.setCell ⟨gb347, 0, none⟩ (.int .i64 t342)).setCell ⟨gb347, 1, none⟩ (.int .i64 t343)).setCell ⟨gb347, 2, none⟩ (.int .i64 t344))) := ⟨by repeat (first | (with_reducible first | exact HB.out | apply below_alloc | apply pw_below_drewN | apply below_drew1 | refine below_set ?_ (IsS79.ge HI340.out) | refine below_set ?_ GW336.out | refine below_set ?_ GE347.out) | exact HB.out)⟩
 (try clear BK336)
 (try clear BK347)
 (try clear HI340)
 (try clear HB)
 generalize (((w7.setCell ⟨gb347, 0, none⟩ (.int .i64 t342)).setCell ⟨gb347, 1, none⟩ (.int .i64 t343)).setCell ⟨gb347, 2, none⟩ (.int .i64 t344)) = w11 at n0_ n1_ n2_ n3_ ⊢
 have BK336 := n0_
 have BK347 := n1_
 have HI340 := n2_
 have HB := n3_
 clear n0_ n1_ n2_ n3_
 replace BK336 := Aside0.mk (blk_drew BK336.out)
 replace BK347 := Aside0.mk (blk_drew BK347.out)
 replace HI340 := Aside0.mk (IsS79.drew HI340.out)
 replace HB := Aside0.mk (below_drew1 HB.out)
 refine start_ (n := 4) (S := fun w' => w'.cell? ⟨gb347, 0, none⟩ = some (.int .i64 t342) ∧ w'.cell? ⟨gb347, 1, none⟩ = some (.int .i64 t343) ∧ w'.cell? ⟨gb347, 2, none⟩ = some (.int .i64 t344)) (ds := []) #[false, false, false, false] (by kernel_rfl) rfl rfl ⟨(blk_cell BK347.out 0).trans rfl, (blk_cell BK347.out 1).trans rfl, (blk_cell BK347.out 2).trans rfl⟩ (fun hHeld => ?_)
 generalize w11.drew = w12 at BK336 BK347 HI340 HB hHeld ⊢
 refine pr 0 (some 12) (tA 4 1) ?_
 refine pr 2 (some 2) (tA 4 5) ?_
 refine tr3 1 (some 13) (tA 4 7) hHeld ?_
 refine one_ (i := 3) (N := none) #[true, true, true, true] rfl rfl (by kernel_rfl) (by decide) (fun K hK => ?_)
 have hs13 : w12.cell? ⟨gb336, 0, none⟩ = some (.int .i64 0) := (blk_cell BK336.out 0).trans rfl
 have hfs13 := blk_frozen BK336.out 0
 obtain ⟨hns13_1, hms13_1⟩ := zm NB336_347
 have hs14 : w12.cell? ⟨gb336, 1, none⟩ = some (.int .i64 0) := (blk_cell BK336.out 1).trans rfl
 have hfs14 := blk_frozen BK336.out 1
 obtain ⟨hns14_1, hms14_1⟩ := zm NB336_347
 have hs15 : w12.cell? ⟨gb336, 2, none⟩ = some (.int .i64 0) := (blk_cell BK336.out 2).trans rfl
 have hfs15 := blk_frozen BK336.out 2
 obtain ⟨hns15_1, hms15_1⟩ := zm NB336_347
 refine skip_ (w1 := ?_) (by rfl) rfl ?_ ?_
 rotate_left
 ·go_simp
  rfl
 refine hK.out _ _ (m3 hHeld (fun e => cs gb336 NB336_347 (cs gb336 NB336_347 (cs gb336 NB336_347 e)))) (fun hHeld => ?_)
 clear hK K
 refine done_ (by kernel_rfl) ?_
 try go_wp2
 refine bodyPost_ret (results_tc rfl _ _ gb336 35 #[.int .i64 t342, .int .i64 t343, .int .i64 t344] (0, 0) _ rfl (bp) Tryz.underlying35 rfl (by kernel_rfl)) rfl ?_
 exact ⟨er, by repeat (first | (with_reducible first | exact HB.out | apply below_alloc | apply pw_below_drewN | apply below_drew1 | refine below_set ?_ (IsS79.ge HI340.out) | refine below_set ?_ GW336.out | refine below_set ?_ GE347.out) | exact HB.out)⟩

/-! ### impl_isPrime: function 43 -/
def impl_isPrime.f (a0 : Int) : Option (Bool) := if a0 = 2 then (some true) else (if a0 = 3 then (some true) else (if a0 = 5 then (some true) else (some (a0 == 7))))
set_option maxHeartbeats 8000000 in
set_option maxRecDepth 100000 in
theorem impl_isPrime.calls (a0 : Int) (r : Bool) (w : World) (h : impl_isPrime.f a0 = some r) :
  Calls Tryz.prog 43 #[.int .i64 a0] w fun e w' => e = .returned (.bool r) ∧ Drawn0 w w' := by
 unfold impl_isPrime.f at h
 have H := h
 clear h
 replace H := ii H
 rcases H with ⟨c2, H⟩ | ⟨c2, H⟩
 ·obtain ⟨c2b0, c2b1⟩ := zz c2
  clear c2
  obtain rfl := Option.some.inj H
  go_enter Tryz.func43, Tryz.ntmps43
  go_wp2
  go_ret
  exact zx
 ·obtain ⟨c2b0, c2b1⟩ := zy c2
  replace H := ii H
  rcases H with ⟨c3, H⟩ | ⟨c3, H⟩
  ·obtain ⟨c3b0, c3b1⟩ := zz c3
   clear c3
   obtain rfl := Option.some.inj H
   go_enter Tryz.func43, Tryz.ntmps43
   go_wp2
   go_ret
   exact zx
  ·obtain ⟨c3b0, c3b1⟩ := zy c3
   replace H := ii H
   rcases H with ⟨c4, H⟩ | ⟨c4, H⟩
   ·obtain ⟨c4b0, c4b1⟩ := zz c4
    clear c4
    obtain rfl := Option.some.inj H
    go_enter Tryz.func43, Tryz.ntmps43
    go_wp2
    go_ret
    exact zx
   ·obtain ⟨c4b0, c4b1⟩ := zy c4
    obtain rfl := Option.some.inj H
    go_enter Tryz.func43, Tryz.ntmps43
    go_wp2
    go_ret
    exact zx

/-! ### impl_isLevel: function 52 -/
def impl_isLevel.f (a0 : Int) : Option (Bool) := if a0 ≥ (-6) then (some (decide (a0 ≤ 6))) else (some false)
set_option maxHeartbeats 8000000 in
set_option maxRecDepth 100000 in
theorem impl_isLevel.calls (a0 : Int) (r : Bool) (w : World) (h : impl_isLevel.f a0 = some r) :
  Calls Tryz.prog 52 #[.int .i64 a0] w fun e w' => e = .returned (.bool r) ∧ Drawn0 w w' := by
 unfold impl_isLevel.f at h
 have H := h
 clear h
 replace H := ii H
 rcases H with ⟨c2, H⟩ | ⟨c2, H⟩
 ·have c2b0 := decide_eq_true c2
  clear c2
  obtain rfl := Option.some.inj H
  go_enter Tryz.func52, Tryz.ntmps52
  go_wp2
  go_ret
  exact zx
 ·have c2b0 := decide_eq_false c2
  clear c2
  obtain rfl := Option.some.inj H
  go_enter Tryz.func52, Tryz.ntmps52
  go_wp2
  go_ret
  exact zx

/-! ### impl_power: function 65 -/
def impl_power.l0 : Nat → Int → Int → Int → Int → Option (Int)
 | 0, _, _, _, _ => none
 | k + 1, x0, x5, x6, x7 => if x7 < x6 then (impl_power.l0 k x0 (wrap64 (x5 * x0)) x6 (wrap64 (x7 + 1))) else (some x5)
def impl_power.f (k : Nat) (a0 : Int) (a1 : Int) : Option (Int) := impl_power.l0 k a0 1 a1 0
set_option maxHeartbeats 8000000 in
set_option maxRecDepth 100000 in
theorem impl_power.calls (k : Nat) (a0 : Int) (a1 : Int) (r : Int) (w : World) (h : impl_power.f k a0 a1 = some r) :
  Calls Tryz.prog 65 #[.int .i64 a0, .int .i64 a1] w fun e w' => e = .returned (.int .i64 r) ∧ Drawn0 w w' := by
 unfold impl_power.f at h
 have H := h
 clear h
 have H' := Aside0.mk H
 clear H
 go_enter Tryz.func65, Tryz.ntmps65
 go_wp2
 go_loopg [5, 7] k (fun kq v5 v7 w' => ∃ (x5_1 : Int) (x7_1 : Int), v5 = .int .i64 x5_1 ∧ v7 = .int .i64 x7_1 ∧ Aside0 (impl_power.l0 kq a0 x5_1 a1 x7_1 = some r) ∧ Aside0 (kq ≤ k) ∧ Drawn0 w w')
 case atStart => exact ⟨(1), (0), (by first | rfl | (simp; done) | (simp [*]; done)), (by first | rfl | (simp; done) | (simp [*]; done)), H', ⟨Nat.le_refl _⟩, by repeat (first | exact Drawn0.refl _ | apply Drawn0.step)⟩
 case round =>
  clear H'
  obtain ⟨x5_1, x7_1, rfl, rfl, HA, HK1, ⟨m1, rfl⟩⟩ := hrel
  cases gk with
  | zero => exact absurd HA.out (by simp [impl_power.l0])
  | succ k1 =>
   have H := HA.out
   clear HA
   simp only [impl_power.l0] at H
   replace H := ii H
   rcases H with ⟨c3, H⟩ | ⟨c3, H⟩
   ·have c3b0 := decide_eq_true c3
    clear c3
    have H' := Aside0.mk H
    clear H
    go_wp2
    go_roundg k1
    case measure => have := HK1.out; omega
    case rel => exact ⟨(wrap64 (x5_1 * a0)), (wrap64 (x7_1 + 1)), (by first | rfl | (simp; done) | (simp [*]; done)), (by first | rfl | (simp; done) | (simp [*]; done)), H', ⟨by have := HK1.out; omega⟩, by repeat (first | exact Drawn0.refl _ | apply Drawn0.step)⟩
   ·have c3b0 := decide_eq_false c3
    clear c3
    obtain rfl := Option.some.inj H
    go_wp2
    go_ret
    exact zx

/-! ### impl_IsBall: function 39 -/
def impl_IsBall.j0 : Nat → Int → Bool → Int → Int → Int → Option (Bool)
 | 0, _, _, _, _, _ => none
 | k + 1, x0, x24, x349000, x349001, x349002 => if x24 = true then (some false) else (if (wrap64 (x349000 + x349002)) ≤ 0 then (if x349001 = 0 then (some (x349002 == 0)) else (some false)) else (if x349001 ≥ 0 then ((impl_power.f k x0 (wrap64 (x349000 + x349002))).bind fun t351 => (if x349001 < t351 then (if x349002 = 0 then (some true) else (if x0 = 0 then (none) else (some ((Int.tmod x349001 x0) != 0)))) else (some false))) else (some false)))
def impl_IsBall.f (k : Nat) (a0 : Int) (a1_0 : Int) (a1_1 : Int) (a1_2 : Int) : Option (Bool) := (impl_isPrime.f a0).bind fun t349 => (if t349 = true then ((impl_isLevel.f a1_0).bind fun t350 => (if t350 = true then (if a1_2 < 0 then (impl_IsBall.j0 k a0 true a1_0 a1_1 a1_2) else (impl_IsBall.j0 k a0 (decide (a1_2 > 6)) a1_0 a1_1 a1_2)) else (impl_IsBall.j0 k a0 true a1_0 a1_1 a1_2))) else (impl_IsBall.j0 k a0 true a1_0 a1_1 a1_2))
set_option maxHeartbeats 8000000 in
set_option maxRecDepth 100000 in
theorem impl_IsBall.calls (k : Nat) (a0 : Int) (a1_0 : Int) (a1_1 : Int) (a1_2 : Int) (r : Bool) (w : World) (h : impl_IsBall.f k a0 a1_0 a1_1 a1_2 = some r) :
  Calls Tryz.prog 39 #[.int .i64 a0, .agg #[.int .i64 a1_0, .int .i64 a1_1, .int .i64 a1_2]] w fun e w' => e = .returned (.bool r) ∧ Below w.heap.size w w' := by
 have hu35 := Tryz.underlying35
 have HB := Aside0.mk (Below.refl w.heap.size w)
 unfold impl_IsBall.f at h
 have H := h
 clear h
 have HC3 := Aside0.mk H
 clear H
 go_enter Tryz.func39, Tryz.ntmps39
 go_upto_region 1 with (first | ((with_reducible refine zg 3 rfl ?_); refine z3 3 35 a1_0 a1_1 a1_2 ?_; intro gb348 hg w4 BK348 hb; have GW348 := sg hg; replace HB := bs hb; clear hb hg))
 repeat (go_quiet (first | ((with_reducible refine zg 3 rfl ?_); refine z3 3 35 a1_0 a1_1 a1_2 ?_; intro gb348 hg w4 BK348 hb; have GW348 := sg hg; replace HB := bs hb; clear hb hg)); go_upto_region 1 with (first | ((with_reducible refine zg 3 rfl ?_); refine z3 3 35 a1_0 a1_1 a1_2 ?_; intro gb348 hg w4 BK348 hb; have GW348 := sg hg; replace HB := bs hb; clear hb hg)))
 (try simp only [Act.put, zq, zr, zt])
 go_cut [24] (fun v24 wc => ∃ (kq : Nat) (x24_2 : Bool), v24 = .bool x24_2 ∧ Aside0 (impl_IsBall.j0 kq a0 x24_2 a1_0 a1_1 a1_2 = some r) ∧ Aside0 (kq ≤ k) ∧ Aside0 (wc.heap[gb348]? = some (.cells #[.int .i64 a1_0, .int .i64 a1_1, .int .i64 a1_2] 35 (0, 0))) ∧ Aside0 (Below w.heap.size w wc))
 case first =>
  have H := HC3.out
  clear HC3
  replace H := zi H
  obtain ⟨t349, A5, H⟩ := H
  try dsimp only at H
  by_cases c6 : t349 = true
  ·subst c6
   rw [if_pos rfl] at H
   replace H := zi H
   obtain ⟨t350, A7, H⟩ := H
   try dsimp only at H
   by_cases c8 : t350 = true
   ·subst c8
    rw [if_pos rfl] at H
    replace H := ii H
    rcases H with ⟨c9, H⟩ | ⟨c9, H⟩
    ·have c9b0 := decide_eq_true c9
     clear c9
     (first | rw [c9b0] | (simp only [i64_w, i32_w]; rw [c9b0]) | skip)
     have H' := Aside0.mk H
     clear H
     go_wp2_with (first | (go_at_call 43; (with_reducible refine (impl_isPrime.calls a0 true _ A5.out).mono ?_); rintro e w' ⟨rfl, ⟨nd, rfl⟩⟩; (try first | exact zd | exact ze); obtain ⟨hcz10_0, hcz10_1, hcz10_2, hfz10_0, hfz10_1, hfz10_2⟩ := cq3 BK348) | (go_at_call 52; (with_reducible refine (impl_isLevel.calls a1_0 true _ A7.out).mono ?_); rintro e w' ⟨rfl, ⟨nd, rfl⟩⟩; (try first | exact zd | exact ze)))
     repeat (go_quiet (first | (go_at_call 43; (with_reducible refine (impl_isPrime.calls a0 true _ A5.out).mono ?_); rintro e w' ⟨rfl, ⟨nd, rfl⟩⟩; (try first | exact zd | exact ze); obtain ⟨hcz10_0, hcz10_1, hcz10_2, hfz10_0, hfz10_1, hfz10_2⟩ := cq3 BK348) | (go_at_call 52; (with_reducible refine (impl_isLevel.calls a1_0 true _ A7.out).mono ?_); rintro e w' ⟨rfl, ⟨nd, rfl⟩⟩; (try first | exact zd | exact ze))); try go_wp2_with (first | (go_at_call 43; (with_reducible refine (impl_isPrime.calls a0 true _ A5.out).mono ?_); rintro e w' ⟨rfl, ⟨nd, rfl⟩⟩; (try first | exact zd | exact ze); obtain ⟨hcz10_0, hcz10_1, hcz10_2, hfz10_0, hfz10_1, hfz10_2⟩ := cq3 BK348) | (go_at_call 52; (with_reducible refine (impl_isLevel.calls a1_0 true _ A7.out).mono ?_); rintro e w' ⟨rfl, ⟨nd, rfl⟩⟩; (try first | exact zd | exact ze))))
     go_meet
     case rel => exact ⟨_, (true), (by first | rfl | (simp; done) | (simp [*]; done)), H', ⟨by first | omega | exact Nat.le_refl _⟩, ⟨be BK348⟩, ⟨bl⟩⟩
    ·have c9b0 := decide_eq_false c9
     clear c9
     (first | rw [c9b0] | (simp only [i64_w, i32_w]; rw [c9b0]) | skip)
     have H' := Aside0.mk H
     clear H
     go_wp2_with (first | (go_at_call 43; (with_reducible refine (impl_isPrime.calls a0 true _ A5.out).mono ?_); rintro e w' ⟨rfl, ⟨nd, rfl⟩⟩; (try first | exact zd | exact ze); obtain ⟨hcz11_0, hcz11_1, hcz11_2, hfz11_0, hfz11_1, hfz11_2⟩ := cq3 BK348) | (go_at_call 52; (with_reducible refine (impl_isLevel.calls a1_0 true _ A7.out).mono ?_); rintro e w' ⟨rfl, ⟨nd, rfl⟩⟩; (try first | exact zd | exact ze)))
     repeat (go_quiet (first | (go_at_call 43; (with_reducible refine (impl_isPrime.calls a0 true _ A5.out).mono ?_); rintro e w' ⟨rfl, ⟨nd, rfl⟩⟩; (try first | exact zd | exact ze); obtain ⟨hcz11_0, hcz11_1, hcz11_2, hfz11_0, hfz11_1, hfz11_2⟩ := cq3 BK348) | (go_at_call 52; (with_reducible refine (impl_isLevel.calls a1_0 true _ A7.out).mono ?_); rintro e w' ⟨rfl, ⟨nd, rfl⟩⟩; (try first | exact zd | exact ze))); try go_wp2_with (first | (go_at_call 43; (with_reducible refine (impl_isPrime.calls a0 true _ A5.out).mono ?_); rintro e w' ⟨rfl, ⟨nd, rfl⟩⟩; (try first | exact zd | exact ze); obtain ⟨hcz11_0, hcz11_1, hcz11_2, hfz11_0, hfz11_1, hfz11_2⟩ := cq3 BK348) | (go_at_call 52; (with_reducible refine (impl_isLevel.calls a1_0 true _ A7.out).mono ?_); rintro e w' ⟨rfl, ⟨nd, rfl⟩⟩; (try first | exact zd | exact ze))))
     go_meet
     case rel => exact ⟨_, (decide (a1_2 > 6)), (by first | rfl | (simp; done) | (simp [*]; done)), H', ⟨by first | omega | exact Nat.le_refl _⟩, ⟨be BK348⟩, ⟨bl⟩⟩
   ·replace c8 := Bool.eq_false_iff.mpr c8
    subst c8
    have H1 : (impl_IsBall.j0 k a0 true a1_0 a1_1 a1_2) = some r := by rw [if_neg (show ¬ (false = true) by decide)] at H; exact H
    clear H
    have H := H1
    clear H1
    have H' := Aside0.mk H
    clear H
    go_wp2_with (first | (go_at_call 43; (with_reducible refine (impl_isPrime.calls a0 true _ A5.out).mono ?_); rintro e w' ⟨rfl, ⟨nd, rfl⟩⟩; (try first | exact zd | exact ze); obtain ⟨hcz12_0, hcz12_1, hcz12_2, hfz12_0, hfz12_1, hfz12_2⟩ := cq3 BK348) | (go_at_call 52; (with_reducible refine (impl_isLevel.calls a1_0 false _ A7.out).mono ?_); rintro e w' ⟨rfl, ⟨nd, rfl⟩⟩; (try first | exact zd | exact ze)))
    repeat (go_quiet (first | (go_at_call 43; (with_reducible refine (impl_isPrime.calls a0 true _ A5.out).mono ?_); rintro e w' ⟨rfl, ⟨nd, rfl⟩⟩; (try first | exact zd | exact ze); obtain ⟨hcz12_0, hcz12_1, hcz12_2, hfz12_0, hfz12_1, hfz12_2⟩ := cq3 BK348) | (go_at_call 52; (with_reducible refine (impl_isLevel.calls a1_0 false _ A7.out).mono ?_); rintro e w' ⟨rfl, ⟨nd, rfl⟩⟩; (try first | exact zd | exact ze))); try go_wp2_with (first | (go_at_call 43; (with_reducible refine (impl_isPrime.calls a0 true _ A5.out).mono ?_); rintro e w' ⟨rfl, ⟨nd, rfl⟩⟩; (try first | exact zd | exact ze); obtain ⟨hcz12_0, hcz12_1, hcz12_2, hfz12_0, hfz12_1, hfz12_2⟩ := cq3 BK348) | (go_at_call 52; (with_reducible refine (impl_isLevel.calls a1_0 false _ A7.out).mono ?_); rintro e w' ⟨rfl, ⟨nd, rfl⟩⟩; (try first | exact zd | exact ze))))
    go_meet
    case rel => exact ⟨_, (true), (by first | rfl | (simp; done) | (simp [*]; done)), H', ⟨by first | omega | exact Nat.le_refl _⟩, ⟨be BK348⟩, ⟨bl⟩⟩
  ·replace c6 := Bool.eq_false_iff.mpr c6
   subst c6
   have H1 : (impl_IsBall.j0 k a0 true a1_0 a1_1 a1_2) = some r := by rw [if_neg (show ¬ (false = true) by decide)] at H; exact H
   clear H
   have H := H1
   clear H1
   have H' := Aside0.mk H
   clear H
   go_wp2_with (first | (go_at_call 43; (with_reducible refine (impl_isPrime.calls a0 false _ A5.out).mono ?_); rintro e w' ⟨rfl, ⟨nd, rfl⟩⟩; (try first | exact zd | exact ze)))
   repeat (go_quiet (first | (go_at_call 43; (with_reducible refine (impl_isPrime.calls a0 false _ A5.out).mono ?_); rintro e w' ⟨rfl, ⟨nd, rfl⟩⟩; (try first | exact zd | exact ze))); try go_wp2_with (first | (go_at_call 43; (with_reducible refine (impl_isPrime.calls a0 false _ A5.out).mono ?_); rintro e w' ⟨rfl, ⟨nd, rfl⟩⟩; (try first | exact zd | exact ze))))
   go_meet
   case rel => exact ⟨_, (true), (by first | rfl | (simp; done) | (simp [*]; done)), H', ⟨by first | omega | exact Nat.le_refl _⟩, ⟨be BK348⟩, ⟨bl⟩⟩
 case rest =>
  clear HC3
  obtain ⟨kq, x24_2, rfl, HA, HJ2, BK348, HB⟩ := hcut
  cases kq with
  | zero => exact absurd HA.out (by simp [impl_IsBall.j0])
  | succ kj2 =>
   have H := HA.out
   clear HA
   simp only [impl_IsBall.j0] at H
   by_cases c13 : x24_2 = true
   ·subst c13
    rw [if_pos rfl] at H
    obtain rfl := Option.some.inj H
    go_wp2
    repeat (go_quiet (fail); try go_wp2)
    go_ret
    exact ⟨er, bl⟩
   ·replace c13 := Bool.eq_false_iff.mpr c13
    subst c13
    have H1 : (if (wrap64 (a1_0 + a1_2)) ≤ 0 then (if a1_1 = 0 then (some (a1_2 == 0)) else (some false)) else (if a1_1 ≥ 0 then ((impl_power.f kj2 a0 (wrap64 (a1_0 + a1_2))).bind fun t351 => (if a1_1 < t351 then (if a1_2 = 0 then (some true) else (if a0 = 0 then (none) else (some ((Int.tmod a1_1 a0) != 0)))) else (some false))) else (some false))) = some r := by rw [if_neg (show ¬ (false = true) by decide)] at H; exact H
    clear H
    have H := H1
    clear H1
    replace H := ii H
    rcases H with ⟨c14, H⟩ | ⟨c14, H⟩
    ·have c14b0 := decide_eq_true c14
     clear c14
     replace H := ii H
     rcases H with ⟨c15, H⟩ | ⟨c15, H⟩
     ·obtain ⟨c15b0, c15b1⟩ := zz c15
      clear c15
      obtain rfl := Option.some.inj H
      obtain ⟨hcz16_0, hcz16_1, hcz16_2, hfz16_0, hfz16_1, hfz16_2⟩ := cq3 BK348
      go_wp2
      repeat (go_quiet (fail); try go_wp2)
      go_ret
      exact ⟨er, bl⟩
     ·obtain ⟨c15b0, c15b1⟩ := zy c15
      obtain rfl := Option.some.inj H
      obtain ⟨hcz17_0, hcz17_1, hcz17_2, hfz17_0, hfz17_1, hfz17_2⟩ := cq3 BK348
      go_wp2
      repeat (go_quiet (fail); try go_wp2)
      go_ret
      exact ⟨er, bl⟩
    ·have c14b0 := decide_eq_false c14
     clear c14
     replace H := ii H
     rcases H with ⟨c18, H⟩ | ⟨c18, H⟩
     ·have c18b0 := decide_eq_true c18
      clear c18
      replace H := zi H
      obtain ⟨t351, A19, H⟩ := H
      try dsimp only at H
      replace H := ii H
      rcases H with ⟨c20, H⟩ | ⟨c20, H⟩
      ·have c20b0 := decide_eq_true c20
       clear c20
       replace H := ii H
       rcases H with ⟨c21, H⟩ | ⟨c21, H⟩
       ·obtain ⟨c21b0, c21b1⟩ := zz c21
        clear c21
        obtain rfl := Option.some.inj H
        obtain ⟨hcz22_0, hcz22_1, hcz22_2, hfz22_0, hfz22_1, hfz22_2⟩ := cq3 BK348
        go_wp2_with (first | (go_at_call 65; (with_reducible refine (impl_power.calls kj2 a0 (wrap64 (a1_0 + a1_2)) t351 _ A19.out).mono ?_); rintro e w' ⟨rfl, ⟨nd, rfl⟩⟩; (try first | exact zd | exact ze)))
        repeat (go_quiet (first | (go_at_call 65; (with_reducible refine (impl_power.calls kj2 a0 (wrap64 (a1_0 + a1_2)) t351 _ A19.out).mono ?_); rintro e w' ⟨rfl, ⟨nd, rfl⟩⟩; (try first | exact zd | exact ze))); try go_wp2_with (first | (go_at_call 65; (with_reducible refine (impl_power.calls kj2 a0 (wrap64 (a1_0 + a1_2)) t351 _ A19.out).mono ?_); rintro e w' ⟨rfl, ⟨nd, rfl⟩⟩; (try first | exact zd | exact ze))))
        go_ret
        exact ⟨er, bl⟩
       ·obtain ⟨c21b0, c21b1⟩ := zy c21
        replace H := ii H
        rcases H with ⟨c23, H⟩ | ⟨c23, H⟩
        ·exact absurd H (by simp)
        ·obtain ⟨c23b0, c23b1⟩ := zy c23
         obtain rfl := Option.some.inj H
         obtain ⟨hcz24_0, hcz24_1, hcz24_2, hfz24_0, hfz24_1, hfz24_2⟩ := cq3 BK348
         go_wp2_with (first | (go_at_call 65; (with_reducible refine (impl_power.calls kj2 a0 (wrap64 (a1_0 + a1_2)) t351 _ A19.out).mono ?_); rintro e w' ⟨rfl, ⟨nd, rfl⟩⟩; (try first | exact zd | exact ze)))
         repeat (go_quiet (first | (go_at_call 65; (with_reducible refine (impl_power.calls kj2 a0 (wrap64 (a1_0 + a1_2)) t351 _ A19.out).mono ?_); rintro e w' ⟨rfl, ⟨nd, rfl⟩⟩; (try first | exact zd | exact ze))); try go_wp2_with (first | (go_at_call 65; (with_reducible refine (impl_power.calls kj2 a0 (wrap64 (a1_0 + a1_2)) t351 _ A19.out).mono ?_); rintro e w' ⟨rfl, ⟨nd, rfl⟩⟩; (try first | exact zd | exact ze))))
         go_ret
         exact ⟨er, bl⟩
      ·have c20b0 := decide_eq_false c20
       clear c20
       obtain rfl := Option.some.inj H
       obtain ⟨hcz25_0, hcz25_1, hcz25_2, hfz25_0, hfz25_1, hfz25_2⟩ := cq3 BK348
       go_wp2_with (first | (go_at_call 65; (with_reducible refine (impl_power.calls kj2 a0 (wrap64 (a1_0 + a1_2)) t351 _ A19.out).mono ?_); rintro e w' ⟨rfl, ⟨nd, rfl⟩⟩; (try first | exact zd | exact ze)))
       repeat (go_quiet (first | (go_at_call 65; (with_reducible refine (impl_power.calls kj2 a0 (wrap64 (a1_0 + a1_2)) t351 _ A19.out).mono ?_); rintro e w' ⟨rfl, ⟨nd, rfl⟩⟩; (try first | exact zd | exact ze))); try go_wp2_with (first | (go_at_call 65; (with_reducible refine (impl_power.calls kj2 a0 (wrap64 (a1_0 + a1_2)) t351 _ A19.out).mono ?_); rintro e w' ⟨rfl, ⟨nd, rfl⟩⟩; (try first | exact zd | exact ze))))
       go_ret
       exact ⟨er, bl⟩
     ·have c18b0 := decide_eq_false c18
      clear c18
      obtain rfl := Option.some.inj H
      obtain ⟨hcz26_0, hcz26_1, hcz26_2, hfz26_0, hfz26_1, hfz26_2⟩ := cq3 BK348
      go_wp2
      repeat (go_quiet (fail); try go_wp2)
      go_ret
      exact ⟨er, bl⟩

end Go.Proofs.YtgdkmchphpjifaaGreatDoor.PFnEnds

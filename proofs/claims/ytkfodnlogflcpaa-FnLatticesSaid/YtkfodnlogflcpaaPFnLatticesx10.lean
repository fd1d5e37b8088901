-- Printed by the kit's print and repaired by a program of this session.
import Derived.Test.YtkfodnlogflcpaaPFnLatticesx0
import Derived.Test.YtkfodnlogflcpaaPFnLatticesx3
import Derived.Test.YtkfodnlogflcpaaPFnLatticesx9
namespace Go.Proofs.Ytkfodnlogflcpaa.PFnLattices
open Go.RowKit Go.Proofs.YtkfodnlogflcpaaW.PrintWords Go.Proofs.YtkfodnlogflcpaaW.PrintLast Go.Proofs.YtkfodnlogflcpaaW.PrintMore
attribute [local go_sem] max2_int min2_int max_two min_two max_three min_three max_four min_four
set_option linter.unusedVariables false
set_option linter.unusedSimpArgs false

/-! ### spec_l03Spoil: function 57 -/
def spec_l03Spoil.f (k : Nat) (s0_0 : List Int) (s0_1 : Int) (s0_2 : Int) : Option (Int × Int × Int × Int × Int × Int) := (spec_l01DrawPrime.f s0_0 s0_1 s0_2).bind fun bt288 => ((spec_l03Draw.f k s0_0 bt288.2.1 bt288.2.2 bt288.1).bind fun bt291 => ((spec_l01Next.f s0_0 bt291.2.2.2.1 bt291.2.2.2.2 40).bind fun bt297 => (if bt297.1 = 0 then ((spec_l01Pick.f s0_0 bt297.2.1 bt297.2.2 (([(-1), 13, wrap64 (bt291.1 - 1)] : List Int))).bind fun bt303 => (some (bt288.1, bt303.1, bt291.2.1, bt291.2.2.1, bt303.2.1, bt303.2.2))) else (if bt297.1 = 1 then ((spec_l01Pick.f s0_0 bt297.2.1 bt297.2.2 (([(-1), 13] : List Int))).bind fun bt309 => (some (bt288.1, bt291.1, bt291.2.1, bt309.1, bt309.2.1, bt309.2.2))) else (if bt297.1 = 2 then ((spec_l01Pick.f s0_0 bt297.2.1 bt297.2.2 (([(-1), wrap64 ((wrap64 (bt291.2.1 * 7)) + 1)] : List Int))).bind fun bt315 => (some (bt288.1, bt291.1, bt315.1, bt291.2.2.1, bt315.2.1, bt315.2.2))) else (if bt297.1 = 3 then ((spec_l01Pick.f s0_0 bt297.2.1 bt297.2.2 (([0, 1, 4, 11] : List Int))).bind fun bt321 => (some (bt321.1, bt291.1, bt291.2.1, bt291.2.2.1, bt321.2.1, bt321.2.2))) else (some (bt288.1, bt291.1, bt291.2.1, bt291.2.2.1, bt297.2.1, bt297.2.2))))))))
set_option maxHeartbeats 8000000 in
set_option maxRecDepth 100000 in
theorem spec_l03Spoil.calls (k : Nat) (g : Nat) (s0_0 : List Int) (s0_1 : Int) (s0_2 : Int) (r1 : Int) (r2 : Int) (r3 : Int) (r4 : Int) (r5 : Int) (r6 : Int) (w0 w : World) (hI : IsS101 w0 w g s0_0 s0_1 s0_2) (hB : Below w0.heap.size w0 w) (h : spec_l03Spoil.f k s0_0 s0_1 s0_2 = some (r1, r2, r3, r4, r5, r6)) :
  Calls Try.prog 57 #[.pointer (some ⟨g, 0, none⟩)] w fun e w' => e = .returned (.tuple #[.int .i64 r1, .agg #[.int .i64 r2, .int .i64 r3, .int .i64 r4]]) ∧ IsS101 w0 w' g s0_0 r5 r6 ∧ Below w0.heap.size w0 w' ∧ KeepBut w w' g none := by
 have hu27 := Try.underlying27
 have HI0 := Aside0.mk hI
 have HK := Aside0.mk (KeepBut.refl w g none)
 have HL := Aside0.mk hB.size
 clear hI
 have HW0 := Aside0.mk hB.size
 have HB := Aside0.mk hB
 clear hB
 unfold spec_l03Spoil.f at h
 have H := h
 clear h
 replace H := zi H
 obtain ⟨⟨t288, t289, t290⟩, A2, H⟩ := H
 try dsimp only at H
 replace H := zi H
 obtain ⟨⟨t291, t292, t293, t294, t295⟩, A3, H⟩ := H
 try dsimp only at H
 replace H := zi H
 obtain ⟨⟨t297, t298, t299⟩, A4, H⟩ := H
 try dsimp only at H
 replace H := ii H
 rcases H with ⟨c5, H⟩ | ⟨c5, H⟩
 ·obtain ⟨c5b0, c5b1⟩ := zz c5
  clear c5
  obtain ⟨y300, hy300⟩ : ∃ y_ : List Int, y_ = (([(-1), 13, wrap64 (t291 - 1)] : List Int)) := ⟨_, rfl⟩
  replace H : ((spec_l01Pick.f s0_0 t298 t299 y300).bind fun bt303 => (some (t288, bt303.1, t292, t293, bt303.2.1, bt303.2.2))) = some (r1, r2, r3, r4, r5, r6) := by first | exact hy300 ▸ H | exact H
  have Ny300 := Aside0.mk hy300
  clear hy300
  replace H := zi H
  obtain ⟨⟨t303, t304, t305⟩, A6, H⟩ := H
  try dsimp only at H
  simp only [Option.some.injEq, Prod.mk.injEq] at H
  obtain ⟨rfl, rfl, rfl, rfl, rfl, rfl⟩ := H
  go_enter Try.func57, Try.ntmps57
  try go_wp2_with (first | ((with_reducible refine zg 3 rfl ?_); refine z3 3 27 0 0 0 ?_; intro gb287 hg w7 BK287 hb; have GW287 := Aside0.mk ((by rw [hg]; exact (keep_size (w := w) (g := g) (row := none) (kl)) : w.heap.size ≤ gb287)); have GE287 := Aside0.mk ((Nat.le_trans HW0.out (by rw [hg]; exact (keep_size (w := w) (g := g) (row := none) (kl)) : w.heap.size ≤ gb287) : w0.heap.size ≤ gb287)); have NB0_287 := Aside0.mk ((by rw [hg]; exact Nat.ne_of_lt (IsS101.lt (IsS101.a : IsS101 w0 _ g s0_0 s0_1 s0_2)) : g ≠ gb287)); have NB287_0 := Aside0.mk ((by rw [hg]; exact Nat.ne_of_gt (IsS101.lt (IsS101.a : IsS101 w0 _ g s0_0 s0_1 s0_2)) : gb287 ≠ g)); replace HK := Aside0.mk (KeepBut.trans (kl) (KeepBut.of_below hb g none) (.inl rfl)); replace HB := Aside0.mk (below_step IsS101.b hb); replace HI0 := Aside0.mk (IsS101.below (IsS101.a) hb); clear hb hg) | ((with_reducible refine zf 80 rfl ?_); refine g1 (some 7) Try.func80 #[.pointer (some ⟨g, 0, none⟩)] ?_; (with_reducible refine (spec_l01DrawPrime.calls g s0_0 s0_1 s0_2 t288 t289 t290 w0 _ ?side1 ?side2 A2.out).mono ?_); (case side1 => exact IsS101.a); (case side2 => exact IsS101.b); rintro e w8 ⟨rfl, hi, hb, hk⟩; refine ⟨_, rfl, ?_⟩; replace BK287 := kb hk BK287 NB287_0; replace HK := Aside0.mk (KeepBut.trans (kl) hk (.inl rfl)); replace HI0 := Aside0.mk (hi); replace HB := Aside0.mk (hb); (try clear hb hk)) | ((with_reducible refine zf 81 rfl ?_); refine g1 (some 10) Try.func81 #[.pointer (some ⟨g, 0, none⟩), .int .i64 t288] ?_; (with_reducible refine (spec_l03Draw.calls k g s0_0 t289 t290 t288 t291 t292 t293 t294 t295 w0 _ ?side1 ?side2 A3.out).mono ?_); (case side1 => exact IsS101.a); (case side2 => exact IsS101.b); rintro e w9 ⟨rfl, hi, hb, hk⟩; refine ⟨_, rfl, ?_⟩; replace BK287 := kb hk BK287 NB287_0; replace HK := Aside0.mk (KeepBut.trans (kl) hk (.inl rfl)); replace HI0 := Aside0.mk (hi); replace HB := Aside0.mk (hb); (try clear hb hk)) | ((with_reducible refine zg 5 rfl ?_); refine z3 5 27 0 0 0 ?_; intro gb296 hg w10 BK296 hb; have GW296 := Aside0.mk ((by rw [hg]; exact (keep_size (w := w) (g := g) (row := none) (kl)) : w.heap.size ≤ gb296)); have GE296 := Aside0.mk ((Nat.le_trans HW0.out (by rw [hg]; exact (keep_size (w := w) (g := g) (row := none) (kl)) : w.heap.size ≤ gb296) : w0.heap.size ≤ gb296)); have NB287_296 := nl hg BK287; have NB0_296 := Aside0.mk ((by rw [hg]; exact Nat.ne_of_lt (IsS101.lt (IsS101.a : IsS101 w0 _ g s0_0 t294 t295)) : g ≠ gb296)); have NB296_0 := Aside0.mk ((by rw [hg]; exact Nat.ne_of_gt (IsS101.lt (IsS101.a : IsS101 w0 _ g s0_0 t294 t295)) : gb296 ≠ g)); replace BK287 := bb BK287 hb; replace HK := Aside0.mk (KeepBut.trans (kl) (KeepBut.of_below hb g none) (.inl rfl)); replace HB := Aside0.mk (below_step IsS101.b hb); replace HI0 := Aside0.mk (IsS101.below (IsS101.a) hb); clear hb hg; obtain ⟨hnb11, hnc11⟩ := zm NB287_296; have hnb12 := NB296_0.out; have hnc12 := NB0_296.out; obtain ⟨hcz13_0, hcz13_1, hcz13_2, hfz13_0, hfz13_1, hfz13_2⟩ := cq3 BK296) | ((with_reducible refine zf 47 rfl ?_); refine g1 (some 12) Try.func47 #[.pointer (some ⟨g, 0, none⟩), .int .i64 40] ?_; (with_reducible refine (spec_l01Next.calls g s0_0 t294 t295 40 t297 t298 t299 w0 _ ?side1 ?side2 A4.out).mono ?_); (case side1 => exact IsS101.a); (case side2 => exact IsS101.b); rintro e w14 ⟨rfl, hi, hb, hk⟩; refine ⟨_, rfl, ?_⟩; replace BK287 := Aside0.mk (KeepBut.blk hk (g' := gb287) (o := .cells #[.int .i64 0, .int .i64 0, .int .i64 0] 27 (0, 0)) (bp) NB287_0.out (by simp)); replace BK296 := Aside0.mk (KeepBut.blk hk (g' := gb296) (o := .cells #[.int .i64 t291, .int .i64 t292, .int .i64 t293] 27 (0, 0)) (bp) NB296_0.out (by simp)); replace HK := Aside0.mk (KeepBut.trans (kl) hk (.inl rfl)); replace HI0 := Aside0.mk (hi); replace HB := Aside0.mk (hb); (try clear hb hk); obtain ⟨hcz15_0, hcz15_1, hcz15_2, hfz15_0, hfz15_1, hfz15_2⟩ := cq3 BK296) | ((with_reducible refine zg 19 rfl ?_); refine Kd.R_lit (Kd.int .i64) _ 2 ?hg (N := 19) ?hd (xs := ([(-1), 13, wrap64 (t291 - 1)] : List Int)) (inner := [.int .i64 (-1), .int .i64 13, .int .i64 (wrap64 (t291 - 1))]) (ok := fun _ => True) (okp := fun _ => True) ?hr ?hp (fun _ hk => hk) trivial (Below.refl _ _) (Nat.le_refl _) (by simp) ?_; (case hd => rfl); (case hg => rfl); (case hr => first | (go_simp; done) | (go_simp; rfl)); (case hp => exact (Reps.one (show Kd.M (Kd.int .i64) _ _ _ (-1) [.int .i64 (-1)] from rfl) (Reps.one (show Kd.M (Kd.int .i64) _ _ _ 13 [.int .i64 13] from rfl) (Reps.one (show Kd.M (Kd.int .i64) _ _ _ (wrap64 (t291 - 1)) [.int .i64 (wrap64 (t291 - 1))] from rfl) (Reps.none _ _))))); intro v301 w16 ho17 hb hg_ hnew_; clear hg_ hnew_; (first | rw [← Ny300.out] at ho17 | (simp only [Int.reduceToNat] at ho17; rw [← Ny300.out] at ho17)); have HO302 := Aside0.mk (Kd.R_lower ho17 (keep_size (w := w) (g := g) (row := none) (kl))); replace BK287 := bb BK287 hb; replace BK296 := bb BK296 hb; replace HK := Aside0.mk (KeepBut.trans (kl) (KeepBut.of_below hb g none) (.inl rfl)); replace HB := Aside0.mk (below_step IsS101.b hb); replace HI0 := Aside0.mk (IsS101.below (IsS101.a) hb); clear hb ho17; obtain ⟨Ao18, co18, eo18⟩ := Kd.R_slice HO302.out; subst eo18) | ((with_reducible refine zf 46 rfl ?_); refine g1 (some 20) Try.func46 #[.pointer (some ⟨g, 0, none⟩), .slice Ao18 y300.length co18] ?_; (with_reducible refine (spec_l01Pick.calls g s0_0 t298 t299 _ _ y300 t303 t304 t305 w0 _ ?side1 ?side2 ?side3 ?side4 ?side5 A6.out).mono ?_); (case side1 => exact IsS101.a); (case side2 => exact IsS101.b); (case side3 => repeat (first | exact (Kd.R_reads' HO302.out).2.2 | (with_reducible refine Kd.C_alloc ?_ _) | (with_reducible refine Kd.C_drewN ?_ _) | (with_reducible refine Kd.C_drew ?_))); (case side4 => exact (Kd.R_reads' HO302.out).2.1); (case side5 => exact far_slice (IsS101.own_ne HI0.out HO302.out (by decide))); rintro e w19 ⟨rfl, hi, hb, hk⟩; refine ⟨_, rfl, ?_⟩; replace BK287 := kb hk BK287 NB287_0; replace BK296 := kb hk BK296 NB296_0; replace HO302 := Aside0.mk (Kd.R_mono (Kd.R_keep (IsS101.apart (IsS101.a : IsS101 w0 _ g s0_0 t298 t299) (by (with_reducible repeat (first | apply Kd.R_alloc | apply Kd.R_drewN | apply Kd.R_drew)); exact HO302.out) (by decide)) hk (fun _ h => h.2)) (fun _ h => h.1)); replace HK := Aside0.mk (KeepBut.trans (kl) hk (.inl rfl)); replace HI0 := Aside0.mk (hi); replace HB := Aside0.mk (hb); (try clear hb hk); obtain ⟨hcz20_0, hcz20_1, hcz20_2, hfz20_0, hfz20_1, hfz20_2⟩ := cq3 BK296))
  have n0_ : Aside0 (Kd.R (Kd.int .i64) 2 (w19.setCell ⟨gb296, 0, none⟩ (.int .i64 t303)) w.heap.size (fun _ => True) (.slice Ao18 y300.length co18) y300) := ⟨by (with_reducible repeat (first | apply Kd.R_alloc | apply Kd.R_drewN | apply Kd.R_drew)); exact Kd.R_mono (Kd.R_far (p := ⟨gb296, 0, none⟩) (Kd.R_types HO302.out BK296.out (by decide)) (fun _ hk => hk.2) (.int .i64 t303)) (fun _ hk => trivial)⟩
  have n1_ : Aside0 ((w19.setCell ⟨gb296, 0, none⟩ (.int .i64 t303)).heap[gb287]? = some (.cells #[.int .i64 0, .int .i64 0, .int .i64 0] 27 (0, 0))) := ⟨bp⟩
  have n2_ : Aside0 ((w19.setCell ⟨gb296, 0, none⟩ (.int .i64 t303)).heap[gb296]? = some (.cells #[.int .i64 t303, .int .i64 t292, .int .i64 t293] 27 (0, 0))) := ⟨bp⟩
  have n3_ : Aside0 (IsS101 w0 (w19.setCell ⟨gb296, 0, none⟩ (.int .i64 t303)) g s0_0 t304 t305) := ⟨IsS101.a⟩
  have n4_ : Aside0 (KeepBut w (w19.setCell ⟨gb296, 0, none⟩ (.int .i64 t303)) g none) := ⟨kl⟩
  have n5_ : Aside0 (Below w0.heap.size w0 (w19.setCell ⟨gb296, 0, none⟩ (.int .i64 t303))) := ⟨IsS101.b⟩
  (try clear HO302)
  (try clear BK287)
  (try clear BK296)
  (try clear HI0)
  (try clear HK)
  (try clear HB)
  generalize (w19.setCell ⟨gb296, 0, none⟩ (.int .i64 t303)) = w21 at n0_ n1_ n2_ n3_ n4_ n5_ ⊢
  have HO302 := n0_
  have BK287 := n1_
  have BK296 := n2_
  have HI0 := n3_
  have HK := n4_
  have HB := n5_
  clear n0_ n1_ n2_ n3_ n4_ n5_
  replace HO302 := Aside0.mk (Kd.R_drew HO302.out)
  replace BK287 := Aside0.mk (blk_drew BK287.out)
  replace BK296 := Aside0.mk (blk_drew BK296.out)
  replace HI0 := Aside0.mk (IsS101.drew HI0.out)
  replace HK := Aside0.mk (keep_drew HK.out)
  replace HB := Aside0.mk (below_drew1 HB.out)
  refine start_ (n := 4) (S := fun w' => w'.cell? ⟨gb296, 0, none⟩ = some (.int .i64 t303) ∧ w'.cell? ⟨gb296, 1, none⟩ = some (.int .i64 t292) ∧ w'.cell? ⟨gb296, 2, none⟩ = some (.int .i64 t293)) (ds := []) #[false, false, false, false] (by kernel_rfl) rfl rfl ⟨(blk_cell BK296.out 0).trans rfl, (blk_cell BK296.out 1).trans rfl, (blk_cell BK296.out 2).trans rfl⟩ (fun hHeld => ?_)
  generalize w21.drew = w22 at HO302 BK287 BK296 HI0 HK HB hHeld ⊢
  refine pr 0 (some 43) (tA 4 1) ?_
  refine pr 2 (some 2) (tA 4 5) ?_
  refine tr3 1 (some 44) (tA 4 7) hHeld ?_
  refine one_ (i := 3) (N := none) #[true, true, true, true] rfl rfl (by kernel_rfl) (by decide) (fun K hK => ?_)
  have hs23 : w22.cell? ⟨gb287, 0, none⟩ = some (.int .i64 0) := (blk_cell BK287.out 0).trans rfl
  have hfs23 := blk_frozen BK287.out 0
  obtain ⟨hns23_1, hms23_1⟩ := zm NB287_296
  have hs24 : w22.cell? ⟨gb287, 1, none⟩ = some (.int .i64 0) := (blk_cell BK287.out 1).trans rfl
  have hfs24 := blk_frozen BK287.out 1
  obtain ⟨hns24_1, hms24_1⟩ := zm NB287_296
  have hs25 : w22.cell? ⟨gb287, 2, none⟩ = some (.int .i64 0) := (blk_cell BK287.out 2).trans rfl
  have hfs25 := blk_frozen BK287.out 2
  obtain ⟨hns25_1, hms25_1⟩ := zm NB287_296
  refine skip_ (w1 := ?_) (by rfl) rfl ?_ ?_
  rotate_left
  ·go_simp
   rfl
  refine hK.out _ _ (m3 hHeld (fun e => cs gb287 NB287_296 (cs gb287 NB287_296 (cs gb287 NB287_296 e)))) (fun hHeld => ?_)
  clear hK K
  refine done_ (by kernel_rfl) ?_
  try go_wp2
  refine bodyPost_ret (results_tc rfl _ _ gb287 27 #[.int .i64 t303, .int .i64 t292, .int .i64 t293] (0, 0) _ rfl (bp) Try.underlying27 rfl (by kernel_rfl)) rfl ?_
  exact ⟨er, IsS101.a, IsS101.b, kl⟩
 ·obtain ⟨c5b0, c5b1⟩ := zy c5
  replace H := ii H
  rcases H with ⟨c26, H⟩ | ⟨c26, H⟩
  ·obtain ⟨c26b0, c26b1⟩ := zz c26
   clear c26
   obtain ⟨y306, hy306⟩ : ∃ y_ : List Int, y_ = (([(-1), 13] : List Int)) := ⟨_, rfl⟩
   replace H : ((spec_l01Pick.f s0_0 t298 t299 y306).bind fun bt309 => (some (t288, t291, t292, bt309.1, bt309.2.1, bt309.2.2))) = some (r1, r2, r3, r4, r5, r6) := by first | exact hy306 ▸ H | exact H
   have Ny306 := Aside0.mk hy306
   clear hy306
   replace H := zi H
   obtain ⟨⟨t309, t310, t311⟩, A27, H⟩ := H
   try dsimp only at H
   simp only [Option.some.injEq, Prod.mk.injEq] at H
   obtain ⟨rfl, rfl, rfl, rfl, rfl, rfl⟩ := H
   go_enter Try.func57, Try.ntmps57
   try go_wp2_with (first | ((with_reducible refine zg 3 rfl ?_); refine z3 3 27 0 0 0 ?_; intro gb287 hg w28 BK287 hb; have GW287 := Aside0.mk ((by rw [hg]; exact (keep_size (w := w) (g := g) (row := none) (kl)) : w.heap.size ≤ gb287)); have GE287 := Aside0.mk ((Nat.le_trans HW0.out (by rw [hg]; exact (keep_size (w := w) (g := g) (row := none) (kl)) : w.heap.size ≤ gb287) : w0.heap.size ≤ gb287)); have NB0_287 := Aside0.mk ((by rw [hg]; exact Nat.ne_of_lt (IsS101.lt (IsS101.a : IsS101 w0 _ g s0_0 s0_1 s0_2)) : g ≠ gb287)); have NB287_0 := Aside0.mk ((by rw [hg]; exact Nat.ne_of_gt (IsS101.lt (IsS101.a : IsS101 w0 _ g s0_0 s0_1 s0_2)) : gb287 ≠ g)); replace HK := Aside0.mk (KeepBut.trans (kl) (KeepBut.of_below hb g none) (.inl rfl)); replace HB := Aside0.mk (below_step IsS101.b hb); replace HI0 := Aside0.mk (IsS101.below (IsS101.a) hb); clear hb hg) | ((with_reducible refine zf 80 rfl ?_); refine g1 (some 7) Try.func80 #[.pointer (some ⟨g, 0, none⟩)] ?_; (with_reducible refine (spec_l01DrawPrime.calls g s0_0 s0_1 s0_2 t288 t289 t290 w0 _ ?side1 ?side2 A2.out).mono ?_); (case side1 => exact IsS101.a); (case side2 => exact IsS101.b); rintro e w29 ⟨rfl, hi, hb, hk⟩; refine ⟨_, rfl, ?_⟩; replace BK287 := kb hk BK287 NB287_0; replace HK := Aside0.mk (KeepBut.trans (kl) hk (.inl rfl)); replace HI0 := Aside0.mk (hi); replace HB := Aside0.mk (hb); (try clear hb hk)) | ((with_reducible refine zf 81 rfl ?_); refine g1 (some 10) Try.func81 #[.pointer (some ⟨g, 0, none⟩), .int .i64 t288] ?_; (with_reducible refine (spec_l03Draw.calls k g s0_0 t289 t290 t288 t291 t292 t293 t294 t295 w0 _ ?side1 ?side2 A3.out).mono ?_); (case side1 => exact IsS101.a); (case side2 => exact IsS101.b); rintro e w30 ⟨rfl, hi, hb, hk⟩; refine ⟨_, rfl, ?_⟩; replace BK287 := kb hk BK287 NB287_0; replace HK := Aside0.mk (KeepBut.trans (kl) hk (.inl rfl)); replace HI0 := Aside0.mk (hi); replace HB := Aside0.mk (hb); (try clear hb hk)) | ((with_reducible refine zg 5 rfl ?_); refine z3 5 27 0 0 0 ?_; intro gb296 hg w31 BK296 hb; have GW296 := Aside0.mk ((by rw [hg]; exact (keep_size (w := w) (g := g) (row := none) (kl)) : w.heap.size ≤ gb296)); have GE296 := Aside0.mk ((Nat.le_trans HW0.out (by rw [hg]; exact (keep_size (w := w) (g := g) (row := none) (kl)) : w.heap.size ≤ gb296) : w0.heap.size ≤ gb296)); have NB287_296 := nl hg BK287; have NB0_296 := Aside0.mk ((by rw [hg]; exact Nat.ne_of_lt (IsS101.lt (IsS101.a : IsS101 w0 _ g s0_0 t294 t295)) : g ≠ gb296)); have NB296_0 := Aside0.mk ((by rw [hg]; exact Nat.ne_of_gt (IsS101.lt (IsS101.a : IsS101 w0 _ g s0_0 t294 t295)) : gb296 ≠ g)); replace BK287 := bb BK287 hb; replace HK := Aside0.mk (KeepBut.trans (kl) (KeepBut.of_below hb g none) (.inl rfl)); replace HB := Aside0.mk (below_step IsS101.b hb); replace HI0 := Aside0.mk (IsS101.below (IsS101.a) hb); clear hb hg; obtain ⟨hnb32, hnc32⟩ := zm NB287_296; have hnb33 := NB296_0.out; have hnc33 := NB0_296.out; obtain ⟨hcz34_0, hcz34_1, hcz34_2, hfz34_0, hfz34_1, hfz34_2⟩ := cq3 BK296) | ((with_reducible refine zf 47 rfl ?_); refine g1 (some 12) Try.func47 #[.pointer (some ⟨g, 0, none⟩), .int .i64 40] ?_; (with_reducible refine (spec_l01Next.calls g s0_0 t294 t295 40 t297 t298 t299 w0 _ ?side1 ?side2 A4.out).mono ?_); (case side1 => exact IsS101.a); (case side2 => exact IsS101.b); rintro e w35 ⟨rfl, hi, hb, hk⟩; refine ⟨_, rfl, ?_⟩; replace BK287 := Aside0.mk (KeepBut.blk hk (g' := gb287) (o := .cells #[.int .i64 0, .int .i64 0, .int .i64 0] 27 (0, 0)) (bp) NB287_0.out (by simp)); replace BK296 := Aside0.mk (KeepBut.blk hk (g' := gb296) (o := .cells #[.int .i64 t291, .int .i64 t292, .int .i64 t293] 27 (0, 0)) (bp) NB296_0.out (by simp)); replace HK := Aside0.mk (KeepBut.trans (kl) hk (.inl rfl)); replace HI0 := Aside0.mk (hi); replace HB := Aside0.mk (hb); (try clear hb hk)) | ((with_reducible refine zg 25 rfl ?_); refine Kd.R_lit (Kd.int .i64) _ 2 ?hg (N := 25) ?hd (xs := ([(-1), 13] : List Int)) (inner := [.int .i64 (-1), .int .i64 13]) (ok := fun _ => True) (okp := fun _ => True) ?hr ?hp (fun _ hk => hk) trivial (Below.refl _ _) (Nat.le_refl _) (by simp) ?_; (case hd => rfl); (case hg => rfl); (case hr => first | (go_simp; done) | (go_simp; rfl)); (case hp => exact (Reps.one (show Kd.M (Kd.int .i64) _ _ _ (-1) [.int .i64 (-1)] from rfl) (Reps.one (show Kd.M (Kd.int .i64) _ _ _ 13 [.int .i64 13] from rfl) (Reps.none _ _)))); intro v307 w36 ho37 hb hg_ hnew_; clear hg_ hnew_; (first | rw [← Ny306.out] at ho37 | (simp only [Int.reduceToNat] at ho37; rw [← Ny306.out] at ho37)); have HO308 := Aside0.mk (Kd.R_lower ho37 (keep_size (w := w) (g := g) (row := none) (kl))); replace BK287 := bb BK287 hb; replace BK296 := bb BK296 hb; replace HK := Aside0.mk (KeepBut.trans (kl) (KeepBut.of_below hb g none) (.inl rfl)); replace HB := Aside0.mk (below_step IsS101.b hb); replace HI0 := Aside0.mk (IsS101.below (IsS101.a) hb); clear hb ho37; obtain ⟨Ao38, co38, eo38⟩ := Kd.R_slice HO308.out; subst eo38) | ((with_reducible refine zf 46 rfl ?_); refine g1 (some 26) Try.func46 #[.pointer (some ⟨g, 0, none⟩), .slice Ao38 y306.length co38] ?_; (with_reducible refine (spec_l01Pick.calls g s0_0 t298 t299 _ _ y306 t309 t310 t311 w0 _ ?side1 ?side2 ?side3 ?side4 ?side5 A27.out).mono ?_); (case side1 => exact IsS101.a); (case side2 => exact IsS101.b); (case side3 => repeat (first | exact (Kd.R_reads' HO308.out).2.2 | (with_reducible refine Kd.C_alloc ?_ _) | (with_reducible refine Kd.C_drewN ?_ _) | (with_reducible refine Kd.C_drew ?_))); (case side4 => exact (Kd.R_reads' HO308.out).2.1); (case side5 => exact far_slice (IsS101.own_ne HI0.out HO308.out (by decide))); rintro e w39 ⟨rfl, hi, hb, hk⟩; refine ⟨_, rfl, ?_⟩; replace BK287 := kb hk BK287 NB287_0; replace BK296 := kb hk BK296 NB296_0; replace HO308 := Aside0.mk (Kd.R_mono (Kd.R_keep (IsS101.apart (IsS101.a : IsS101 w0 _ g s0_0 t298 t299) (by (with_reducible repeat (first | apply Kd.R_alloc | apply Kd.R_drewN | apply Kd.R_drew)); exact HO308.out) (by decide)) hk (fun _ h => h.2)) (fun _ h => h.1)); replace HK := Aside0.mk (KeepBut.trans (kl) hk (.inl rfl)); replace HI0 := Aside0.mk (hi); replace HB := Aside0.mk (hb); (try clear hb hk); obtain ⟨hcz40_0, hcz40_1, hcz40_2, hfz40_0, hfz40_1, hfz40_2⟩ := cq3 BK296))
   have n0_ : Aside0 (Kd.R (Kd.int .i64) 2 (w39.setCell ⟨gb296, 2, none⟩ (.int .i64 t309)) w.heap.size (fun _ => True) (.slice Ao38 y306.length co38) y306) := ⟨by (with_reducible repeat (first | apply Kd.R_alloc | apply Kd.R_drewN | apply Kd.R_drew)); exact Kd.R_mono (Kd.R_far (p := ⟨gb296, 2, none⟩) (Kd.R_types HO308.out BK296.out (by decide)) (fun _ hk => hk.2) (.int .i64 t309)) (fun _ hk => trivial)⟩
   have n1_ : Aside0 ((w39.setCell ⟨gb296, 2, none⟩ (.int .i64 t309)).heap[gb287]? = some (.cells #[.int .i64 0, .int .i64 0, .int .i64 0] 27 (0, 0))) := ⟨bp⟩
   have n2_ : Aside0 ((w39.setCell ⟨gb296, 2, none⟩ (.int .i64 t309)).heap[gb296]? = some (.cells #[.int .i64 t291, .int .i64 t292, .int .i64 t309] 27 (0, 0))) := ⟨bp⟩
   have n3_ : Aside0 (IsS101 w0 (w39.setCell ⟨gb296, 2, none⟩ (.int .i64 t309)) g s0_0 t310 t311) := ⟨IsS101.a⟩
   have n4_ : Aside0 (KeepBut w (w39.setCell ⟨gb296, 2, none⟩ (.int .i64 t309)) g none) := ⟨kl⟩
   have n5_ : Aside0 (Below w0.heap.size w0 (w39.setCell ⟨gb296, 2, none⟩ (.int .i64 t309))) := ⟨IsS101.b⟩
   (try clear HO308)
   (try clear BK287)
   (try clear BK296)
   (try clear HI0)
   (try clear HK)
   (try clear HB)
   generalize (w39.setCell ⟨gb296, 2, none⟩ (.int .i64 t309)) = w41 at n0_ n1_ n2_ n3_ n4_ n5_ ⊢
   have HO308 := n0_
   have BK287 := n1_
   have BK296 := n2_
   have HI0 := n3_
   have HK := n4_
   have HB := n5_
   clear n0_ n1_ n2_ n3_ n4_ n5_
   replace HO308 := Aside0.mk (Kd.R_drew HO308.out)
   replace BK287 := Aside0.mk (blk_drew BK287.out)
   replace BK296 := Aside0.mk (blk_drew BK296.out)
   replace HI0 := Aside0.mk (IsS101.drew HI0.out)
   replace HK := Aside0.mk (keep_drew HK.out)
   replace HB := Aside0.mk (below_drew1 HB.out)
   refine start_ (n := 4) (S := fun w' => w'.cell? ⟨gb296, 0, none⟩ = some (.int .i64 t291) ∧ w'.cell? ⟨gb296, 1, none⟩ = some (.int .i64 t292) ∧ w'.cell? ⟨gb296, 2, none⟩ = some (.int .i64 t309)) (ds := []) #[false, false, false, false] (by kernel_rfl) rfl rfl ⟨(blk_cell BK296.out 0).trans rfl, (blk_cell BK296.out 1).trans rfl, (blk_cell BK296.out 2).trans rfl⟩ (fun hHeld => ?_)
   generalize w41.drew = w42 at HO308 BK287 BK296 HI0 HK HB hHeld ⊢
   refine pr 0 (some 43) (tA 4 1) ?_
   refine pr 2 (some 2) (tA 4 5) ?_
   refine tr3 1 (some 44) (tA 4 7) hHeld ?_
   refine one_ (i := 3) (N := none) #[true, true, true, true] rfl rfl (by kernel_rfl) (by decide) (fun K hK => ?_)
   have hs43 : w42.cell? ⟨gb287, 0, none⟩ = some (.int .i64 0) := (blk_cell BK287.out 0).trans rfl
   have hfs43 := blk_frozen BK287.out 0
   obtain ⟨hns43_1, hms43_1⟩ := zm NB287_296
   have hs44 : w42.cell? ⟨gb287, 1, none⟩ = some (.int .i64 0) := (blk_cell BK287.out 1).trans rfl
   have hfs44 := blk_frozen BK287.out 1
   obtain ⟨hns44_1, hms44_1⟩ := zm NB287_296
   have hs45 : w42.cell? ⟨gb287, 2, none⟩ = some (.int .i64 0) := (blk_cell BK287.out 2).trans rfl
   have hfs45 := blk_frozen BK287.out 2
   obtain ⟨hns45_1, hms45_1⟩ := zm NB287_296
   refine skip_ (w1 := ?_) (by rfl) rfl ?_ ?_
   rotate_left
   ·go_simp
    rfl
   refine hK.out _ _ (m3 hHeld (fun e => cs gb287 NB287_296 (cs gb287 NB287_296 (cs gb287 NB287_296 e)))) (fun hHeld => ?_)
   clear hK K
   refine done_ (by kernel_rfl) ?_
   try go_wp2
   refine bodyPost_ret (results_tc rfl _ _ gb287 27 #[.int .i64 t291, .int .i64 t292, .int .i64 t309] (0, 0) _ rfl (bp) Try.underlying27 rfl (by kernel_rfl)) rfl ?_
   exact ⟨er, IsS101.a, IsS101.b, kl⟩
  ·obtain ⟨c26b0, c26b1⟩ := zy c26
   replace H := ii H
   rcases H with ⟨c46, H⟩ | ⟨c46, H⟩
   ·obtain ⟨c46b0, c46b1⟩ := zz c46
    clear c46
    obtain ⟨y312, hy312⟩ : ∃ y_ : List Int, y_ = (([(-1), wrap64 ((wrap64 (t292 * 7)) + 1)] : List Int)) := ⟨_, rfl⟩
    replace H : ((spec_l01Pick.f s0_0 t298 t299 y312).bind fun bt315 => (some (t288, t291, bt315.1, t293, bt315.2.1, bt315.2.2))) = some (r1, r2, r3, r4, r5, r6) := by first | exact hy312 ▸ H | exact H
    have Ny312 := Aside0.mk hy312
    clear hy312
    replace H := zi H
    obtain ⟨⟨t315, t316, t317⟩, A47, H⟩ := H
    try dsimp only at H
    simp only [Option.some.injEq, Prod.mk.injEq] at H
    obtain ⟨rfl, rfl, rfl, rfl, rfl, rfl⟩ := H
    go_enter Try.func57, Try.ntmps57
    try go_wp2_with (first | ((with_reducible refine zg 3 rfl ?_); refine z3 3 27 0 0 0 ?_; intro gb287 hg w48 BK287 hb; have GW287 := Aside0.mk ((by rw [hg]; exact (keep_size (w := w) (g := g) (row := none) (kl)) : w.heap.size ≤ gb287)); have GE287 := Aside0.mk ((Nat.le_trans HW0.out (by rw [hg]; exact (keep_size (w := w) (g := g) (row := none) (kl)) : w.heap.size ≤ gb287) : w0.heap.size ≤ gb287)); have NB0_287 := Aside0.mk ((by rw [hg]; exact Nat.ne_of_lt (IsS101.lt (IsS101.a : IsS101 w0 _ g s0_0 s0_1 s0_2)) : g ≠ gb287)); have NB287_0 := Aside0.mk ((by rw [hg]; exact Nat.ne_of_gt (IsS101.lt (IsS101.a : IsS101 w0 _ g s0_0 s0_1 s0_2)) : gb287 ≠ g)); replace HK := Aside0.mk (KeepBut.trans (kl) (KeepBut.of_below hb g none) (.inl rfl)); replace HB := Aside0.mk (below_step IsS101.b hb); replace HI0 := Aside0.mk (IsS101.below (IsS101.a) hb); clear hb hg) | ((with_reducible refine zf 80 rfl ?_); refine g1 (some 7) Try.func80 #[.pointer (some ⟨g, 0, none⟩)] ?_; (with_reducible refine (spec_l01DrawPrime.calls g s0_0 s0_1 s0_2 t288 t289 t290 w0 _ ?side1 ?side2 A2.out).mono ?_); (case side1 => exact IsS101.a); (case side2 => exact IsS101.b); rintro e w49 ⟨rfl, hi, hb, hk⟩; refine ⟨_, rfl, ?_⟩; replace BK287 := kb hk BK287 NB287_0; replace HK := Aside0.mk (KeepBut.trans (kl) hk (.inl rfl)); replace HI0 := Aside0.mk (hi); replace HB := Aside0.mk (hb); (try clear hb hk)) | ((with_reducible refine zf 81 rfl ?_); refine g1 (some 10) Try.func81 #[.pointer (some ⟨g, 0, none⟩), .int .i64 t288] ?_; (with_reducible refine (spec_l03Draw.calls k g s0_0 t289 t290 t288 t291 t292 t293 t294 t295 w0 _ ?side1 ?side2 A3.out).mono ?_); (case side1 => exact IsS101.a); (case side2 => exact IsS101.b); rintro e w50 ⟨rfl, hi, hb, hk⟩; refine ⟨_, rfl, ?_⟩; replace BK287 := kb hk BK287 NB287_0; replace HK := Aside0.mk (KeepBut.trans (kl) hk (.inl rfl)); replace HI0 := Aside0.mk (hi); replace HB := Aside0.mk (hb); (try clear hb hk)) | ((with_reducible refine zg 5 rfl ?_); refine z3 5 27 0 0 0 ?_; intro gb296 hg w51 BK296 hb; have GW296 := Aside0.mk ((by rw [hg]; exact (keep_size (w := w) (g := g) (row := none) (kl)) : w.heap.size ≤ gb296)); have GE296 := Aside0.mk ((Nat.le_trans HW0.out (by rw [hg]; exact (keep_size (w := w) (g := g) (row := none) (kl)) : w.heap.size ≤ gb296) : w0.heap.size ≤ gb296)); have NB287_296 := nl hg BK287; have NB0_296 := Aside0.mk ((by rw [hg]; exact Nat.ne_of_lt (IsS101.lt (IsS101.a : IsS101 w0 _ g s0_0 t294 t295)) : g ≠ gb296)); have NB296_0 := Aside0.mk ((by rw [hg]; exact Nat.ne_of_gt (IsS101.lt (IsS101.a : IsS101 w0 _ g s0_0 t294 t295)) : gb296 ≠ g)); replace BK287 := bb BK287 hb; replace HK := Aside0.mk (KeepBut.trans (kl) (KeepBut.of_below hb g none) (.inl rfl)); replace HB := Aside0.mk (below_step IsS101.b hb); replace HI0 := Aside0.mk (IsS101.below (IsS101.a) hb); clear hb hg; obtain ⟨hnb52, hnc52⟩ := zm NB287_296; have hnb53 := NB296_0.out; have hnc53 := NB0_296.out; obtain ⟨hcz54_0, hcz54_1, hcz54_2, hfz54_0, hfz54_1, hfz54_2⟩ := cq3 BK296) | ((with_reducible refine zf 47 rfl ?_); refine g1 (some 12) Try.func47 #[.pointer (some ⟨g, 0, none⟩), .int .i64 40] ?_; (with_reducible refine (spec_l01Next.calls g s0_0 t294 t295 40 t297 t298 t299 w0 _ ?side1 ?side2 A4.out).mono ?_); (case side1 => exact IsS101.a); (case side2 => exact IsS101.b); rintro e w55 ⟨rfl, hi, hb, hk⟩; refine ⟨_, rfl, ?_⟩; replace BK287 := Aside0.mk (KeepBut.blk hk (g' := gb287) (o := .cells #[.int .i64 0, .int .i64 0, .int .i64 0] 27 (0, 0)) (bp) NB287_0.out (by simp)); replace BK296 := Aside0.mk (KeepBut.blk hk (g' := gb296) (o := .cells #[.int .i64 t291, .int .i64 t292, .int .i64 t293] 27 (0, 0)) (bp) NB296_0.out (by simp)); replace HK := Aside0.mk (KeepBut.trans (kl) hk (.inl rfl)); replace HI0 := Aside0.mk (hi); replace HB := Aside0.mk (hb); (try clear hb hk); obtain ⟨hcz56_0, hcz56_1, hcz56_2, hfz56_0, hfz56_1, hfz56_2⟩ := cq3 BK296) | ((with_reducible refine zg 35 rfl ?_); refine Kd.R_lit (Kd.int .i64) _ 2 ?hg (N := 35) ?hd (xs := ([(-1), wrap64 ((wrap64 (t292 * 7)) + 1)] : List Int)) (inner := [.int .i64 (-1), .int .i64 (wrap64 ((wrap64 (t292 * 7)) + 1))]) (ok := fun _ => True) (okp := fun _ => True) ?hr ?hp (fun _ hk => hk) trivial (Below.refl _ _) (Nat.le_refl _) (by simp) ?_; (case hd => rfl); (case hg => rfl); (case hr => first | (go_simp; done) | (go_simp; rfl)); (case hp => exact (Reps.one (show Kd.M (Kd.int .i64) _ _ _ (-1) [.int .i64 (-1)] from rfl) (Reps.one (show Kd.M (Kd.int .i64) _ _ _ (wrap64 ((wrap64 (t292 * 7)) + 1)) [.int .i64 (wrap64 ((wrap64 (t292 * 7)) + 1))] from rfl) (Reps.none _ _)))); intro v313 w57 ho58 hb hg_ hnew_; clear hg_ hnew_; (first | rw [← Ny312.out] at ho58 | (simp only [Int.reduceToNat] at ho58; rw [← Ny312.out] at ho58)); have HO314 := Aside0.mk (Kd.R_lower ho58 (keep_size (w := w) (g := g) (row := none) (kl))); replace BK287 := bb BK287 hb; replace BK296 := bb BK296 hb; replace HK := Aside0.mk (KeepBut.trans (kl) (KeepBut.of_below hb g none) (.inl rfl)); replace HB := Aside0.mk (below_step IsS101.b hb); replace HI0 := Aside0.mk (IsS101.below (IsS101.a) hb); clear hb ho58; obtain ⟨Ao59, co59, eo59⟩ := Kd.R_slice HO314.out; subst eo59) | ((with_reducible refine zf 46 rfl ?_); refine g1 (some 36) Try.func46 #[.pointer (some ⟨g, 0, none⟩), .slice Ao59 y312.length co59] ?_; (with_reducible refine (spec_l01Pick.calls g s0_0 t298 t299 _ _ y312 t315 t316 t317 w0 _ ?side1 ?side2 ?side3 ?side4 ?side5 A47.out).mono ?_); (case side1 => exact IsS101.a); (case side2 => exact IsS101.b); (case side3 => repeat (first | exact (Kd.R_reads' HO314.out).2.2 | (with_reducible refine Kd.C_alloc ?_ _) | (with_reducible refine Kd.C_drewN ?_ _) | (with_reducible refine Kd.C_drew ?_))); (case side4 => exact (Kd.R_reads' HO314.out).2.1); (case side5 => exact far_slice (IsS101.own_ne HI0.out HO314.out (by decide))); rintro e w60 ⟨rfl, hi, hb, hk⟩; refine ⟨_, rfl, ?_⟩; replace BK287 := kb hk BK287 NB287_0; replace BK296 := kb hk BK296 NB296_0; replace HO314 := Aside0.mk (Kd.R_mono (Kd.R_keep (IsS101.apart (IsS101.a : IsS101 w0 _ g s0_0 t298 t299) (by (with_reducible repeat (first | apply Kd.R_alloc | apply Kd.R_drewN | apply Kd.R_drew)); exact HO314.out) (by decide)) hk (fun _ h => h.2)) (fun _ h => h.1)); replace HK := Aside0.mk (KeepBut.trans (kl) hk (.inl rfl)); replace HI0 := Aside0.mk (hi); replace HB := Aside0.mk (hb); (try clear hb hk); obtain ⟨hcz61_0, hcz61_1, hcz61_2, hfz61_0, hfz61_1, hfz61_2⟩ := cq3 BK296))
    have n0_ : Aside0 (Kd.R (Kd.int .i64) 2 (w60.setCell ⟨gb296, 1, none⟩ (.int .i64 t315)) w.heap.size (fun _ => True) (.slice Ao59 y312.length co59) y312) := ⟨by (with_reducible repeat (first | apply Kd.R_alloc | apply Kd.R_drewN | apply Kd.R_drew)); exact Kd.R_mono (Kd.R_far (p := ⟨gb296, 1, none⟩) (Kd.R_types HO314.out BK296.out (by decide)) (fun _ hk => hk.2) (.int .i64 t315)) (fun _ hk => trivial)⟩
    have n1_ : Aside0 ((w60.setCell ⟨gb296, 1, none⟩ (.int .i64 t315)).heap[gb287]? = some (.cells #[.int .i64 0, .int .i64 0, .int .i64 0] 27 (0, 0))) := ⟨bp⟩
    have n2_ : Aside0 ((w60.setCell ⟨gb296, 1, none⟩ (.int .i64 t315)).heap[gb296]? = some (.cells #[.int .i64 t291, .int .i64 t315, .int .i64 t293] 27 (0, 0))) := ⟨bp⟩
    have n3_ : Aside0 (IsS101 w0 (w60.setCell ⟨gb296, 1, none⟩ (.int .i64 t315)) g s0_0 t316 t317) := ⟨IsS101.a⟩
    have n4_ : Aside0 (KeepBut w (w60.setCell ⟨gb296, 1, none⟩ (.int .i64 t315)) g none) := ⟨kl⟩
    have n5_ : Aside0 (Below w0.heap.size w0 (w60.setCell ⟨gb296, 1, none⟩ (.int .i64 t315))) := ⟨IsS101.b⟩
    (try clear HO314)
    (try clear BK287)
    (try clear BK296)
    (try clear HI0)
    (try clear HK)
    (try clear HB)
    generalize (w60.setCell ⟨gb296, 1, none⟩ (.int .i64 t315)) = w62 at n0_ n1_ n2_ n3_ n4_ n5_ ⊢
    have HO314 := n0_
    have BK287 := n1_
    have BK296 := n2_
    have HI0 := n3_
    have HK := n4_
    have HB := n5_
    clear n0_ n1_ n2_ n3_ n4_ n5_
    replace HO314 := Aside0.mk (Kd.R_drew HO314.out)
    replace BK287 := Aside0.mk (blk_drew BK287.out)
    replace BK296 := Aside0.mk (blk_drew BK296.out)
    replace HI0 := Aside0.mk (IsS101.drew HI0.out)
    replace HK := Aside0.mk (keep_drew HK.out)
    replace HB := Aside0.mk (below_drew1 HB.out)
    refine start_ (n := 4) (S := fun w' => w'.cell? ⟨gb296, 0, none⟩ = some (.int .i64 t291) ∧ w'.cell? ⟨gb296, 1, none⟩ = some (.int .i64 t315) ∧ w'.cell? ⟨gb296, 2, none⟩ = some (.int .i64 t293)) (ds := []) #[false, false, false, false] (by kernel_rfl) rfl rfl ⟨(blk_cell BK296.out 0).trans rfl, (blk_cell BK296.out 1).trans rfl, (blk_cell BK296.out 2).trans rfl⟩ (fun hHeld => ?_)
    generalize w62.drew = w63 at HO314 BK287 BK296 HI0 HK HB hHeld ⊢
    refine pr 0 (some 43) (tA 4 1) ?_
    refine pr 2 (some 2) (tA 4 5) ?_
    refine tr3 1 (some 44) (tA 4 7) hHeld ?_
    refine one_ (i := 3) (N := none) #[true, true, true, true] rfl rfl (by kernel_rfl) (by decide) (fun K hK => ?_)
    have hs64 : w63.cell? ⟨gb287, 0, none⟩ = some (.int .i64 0) := (blk_cell BK287.out 0).trans rfl
    have hfs64 := blk_frozen BK287.out 0
    obtain ⟨hns64_1, hms64_1⟩ := zm NB287_296
    have hs65 : w63.cell? ⟨gb287, 1, none⟩ = some (.int .i64 0) := (blk_cell BK287.out 1).trans rfl
    have hfs65 := blk_frozen BK287.out 1
    obtain ⟨hns65_1, hms65_1⟩ := zm NB287_296
    have hs66 : w63.cell? ⟨gb287, 2, none⟩ = some (.int .i64 0) := (blk_cell BK287.out 2).trans rfl
    have hfs66 := blk_frozen BK287.out 2
    obtain ⟨hns66_1, hms66_1⟩ := zm NB287_296
    refine skip_ (w1 := ?_) (by rfl) rfl ?_ ?_
    rotate_left
    ·go_simp
     rfl
    refine hK.out _ _ (m3 hHeld (fun e => cs gb287 NB287_296 (cs gb287 NB287_296 (cs gb287 NB287_296 e)))) (fun hHeld => ?_)
    clear hK K
    refine done_ (by kernel_rfl) ?_
    try go_wp2
    refine bodyPost_ret (results_tc rfl _ _ gb287 27 #[.int .i64 t291, .int .i64 t315, .int .i64 t293] (0, 0) _ rfl (bp) Try.underlying27 rfl (by kernel_rfl)) rfl ?_
    exact ⟨er, IsS101.a, IsS101.b, kl⟩
   ·obtain ⟨c46b0, c46b1⟩ := zy c46
    replace H := ii H
    rcases H with ⟨c67, H⟩ | ⟨c67, H⟩
    ·obtain ⟨c67b0, c67b1⟩ := zz c67
     clear c67
     obtain ⟨y318, hy318⟩ : ∃ y_ : List Int, y_ = (([0, 1, 4, 11] : List Int)) := ⟨_, rfl⟩
     replace H : ((spec_l01Pick.f s0_0 t298 t299 y318).bind fun bt321 => (some (bt321.1, t291, t292, t293, bt321.2.1, bt321.2.2))) = some (r1, r2, r3, r4, r5, r6) := by first | exact hy318 ▸ H | exact H
     have Ny318 := Aside0.mk hy318
     clear hy318
     replace H := zi H
     obtain ⟨⟨t321, t322, t323⟩, A68, H⟩ := H
     try dsimp only at H
     simp only [Option.some.injEq, Prod.mk.injEq] at H
     obtain ⟨rfl, rfl, rfl, rfl, rfl, rfl⟩ := H
     go_enter Try.func57, Try.ntmps57
     try go_wp2_with (first | ((with_reducible refine zg 3 rfl ?_); refine z3 3 27 0 0 0 ?_; intro gb287 hg w69 BK287 hb; have GW287 := Aside0.mk ((by rw [hg]; exact (keep_size (w := w) (g := g) (row := none) (kl)) : w.heap.size ≤ gb287)); have GE287 := Aside0.mk ((Nat.le_trans HW0.out (by rw [hg]; exact (keep_size (w := w) (g := g) (row := none) (kl)) : w.heap.size ≤ gb287) : w0.heap.size ≤ gb287)); have NB0_287 := Aside0.mk ((by rw [hg]; exact Nat.ne_of_lt (IsS101.lt (IsS101.a : IsS101 w0 _ g s0_0 s0_1 s0_2)) : g ≠ gb287)); have NB287_0 := Aside0.mk ((by rw [hg]; exact Nat.ne_of_gt (IsS101.lt (IsS101.a : IsS101 w0 _ g s0_0 s0_1 s0_2)) : gb287 ≠ g)); replace HK := Aside0.mk (KeepBut.trans (kl) (KeepBut.of_below hb g none) (.inl rfl)); replace HB := Aside0.mk (below_step IsS101.b hb); replace HI0 := Aside0.mk (IsS101.below (IsS101.a) hb); clear hb hg) | ((with_reducible refine zf 80 rfl ?_); refine g1 (some 7) Try.func80 #[.pointer (some ⟨g, 0, none⟩)] ?_; (with_reducible refine (spec_l01DrawPrime.calls g s0_0 s0_1 s0_2 t288 t289 t290 w0 _ ?side1 ?side2 A2.out).mono ?_); (case side1 => exact IsS101.a); (case side2 => exact IsS101.b); rintro e w70 ⟨rfl, hi, hb, hk⟩; refine ⟨_, rfl, ?_⟩; replace BK287 := kb hk BK287 NB287_0; replace HK := Aside0.mk (KeepBut.trans (kl) hk (.inl rfl)); replace HI0 := Aside0.mk (hi); replace HB := Aside0.mk (hb); (try clear hb hk)) | ((with_reducible refine zf 81 rfl ?_); refine g1 (some 10) Try.func81 #[.pointer (some ⟨g, 0, none⟩), .int .i64 t288] ?_; (with_reducible refine (spec_l03Draw.calls k g s0_0 t289 t290 t288 t291 t292 t293 t294 t295 w0 _ ?side1 ?side2 A3.out).mono ?_); (case side1 => exact IsS101.a); (case side2 => exact IsS101.b); rintro e w71 ⟨rfl, hi, hb, hk⟩; refine ⟨_, rfl, ?_⟩; replace BK287 := kb hk BK287 NB287_0; replace HK := Aside0.mk (KeepBut.trans (kl) hk (.inl rfl)); replace HI0 := Aside0.mk (hi); replace HB := Aside0.mk (hb); (try clear hb hk)) | ((with_reducible refine zg 5 rfl ?_); refine z3 5 27 0 0 0 ?_; intro gb296 hg w72 BK296 hb; have GW296 := Aside0.mk ((by rw [hg]; exact (keep_size (w := w) (g := g) (row := none) (kl)) : w.heap.size ≤ gb296)); have GE296 := Aside0.mk ((Nat.le_trans HW0.out (by rw [hg]; exact (keep_size (w := w) (g := g) (row := none) (kl)) : w.heap.size ≤ gb296) : w0.heap.size ≤ gb296)); have NB287_296 := nl hg BK287; have NB0_296 := Aside0.mk ((by rw [hg]; exact Nat.ne_of_lt (IsS101.lt (IsS101.a : IsS101 w0 _ g s0_0 t294 t295)) : g ≠ gb296)); have NB296_0 := Aside0.mk ((by rw [hg]; exact Nat.ne_of_gt (IsS101.lt (IsS101.a : IsS101 w0 _ g s0_0 t294 t295)) : gb296 ≠ g)); replace BK287 := bb BK287 hb; replace HK := Aside0.mk (KeepBut.trans (kl) (KeepBut.of_below hb g none) (.inl rfl)); replace HB := Aside0.mk (below_step IsS101.b hb); replace HI0 := Aside0.mk (IsS101.below (IsS101.a) hb); clear hb hg; obtain ⟨hnb73, hnc73⟩ := zm NB287_296; have hnb74 := NB296_0.out; have hnc74 := NB0_296.out; obtain ⟨hcz75_0, hcz75_1, hcz75_2, hfz75_0, hfz75_1, hfz75_2⟩ := cq3 BK296) | ((with_reducible refine zf 47 rfl ?_); refine g1 (some 12) Try.func47 #[.pointer (some ⟨g, 0, none⟩), .int .i64 40] ?_; (with_reducible refine (spec_l01Next.calls g s0_0 t294 t295 40 t297 t298 t299 w0 _ ?side1 ?side2 A4.out).mono ?_); (case side1 => exact IsS101.a); (case side2 => exact IsS101.b); rintro e w76 ⟨rfl, hi, hb, hk⟩; refine ⟨_, rfl, ?_⟩; replace BK287 := Aside0.mk (KeepBut.blk hk (g' := gb287) (o := .cells #[.int .i64 0, .int .i64 0, .int .i64 0] 27 (0, 0)) (bp) NB287_0.out (by simp)); replace BK296 := Aside0.mk (KeepBut.blk hk (g' := gb296) (o := .cells #[.int .i64 t291, .int .i64 t292, .int .i64 t293] 27 (0, 0)) (bp) NB296_0.out (by simp)); replace HK := Aside0.mk (KeepBut.trans (kl) hk (.inl rfl)); replace HI0 := Aside0.mk (hi); replace HB := Aside0.mk (hb); (try clear hb hk)) | ((with_reducible refine zg 41 rfl ?_); refine Kd.R_lit (Kd.int .i64) _ 2 ?hg (N := 41) ?hd (xs := ([0, 1, 4, 11] : List Int)) (inner := [.int .i64 0, .int .i64 1, .int .i64 4, .int .i64 11]) (ok := fun _ => True) (okp := fun _ => True) ?hr ?hp (fun _ hk => hk) trivial (Below.refl _ _) (Nat.le_refl _) (by simp) ?_; (case hd => rfl); (case hg => rfl); (case hr => first | (go_simp; done) | (go_simp; rfl)); (case hp => exact (Reps.one (show Kd.M (Kd.int .i64) _ _ _ 0 [.int .i64 0] from rfl) (Reps.one (show Kd.M (Kd.int .i64) _ _ _ 1 [.int .i64 1] from rfl) (Reps.one (show Kd.M (Kd.int .i64) _ _ _ 4 [.int .i64 4] from rfl) (Reps.one (show Kd.M (Kd.int .i64) _ _ _ 11 [.int .i64 11] from rfl) (Reps.none _ _)))))); intro v319 w77 ho78 hb hg_ hnew_; clear hg_ hnew_; (first | rw [← Ny318.out] at ho78 | (simp only [Int.reduceToNat] at ho78; rw [← Ny318.out] at ho78)); have HO320 := Aside0.mk (Kd.R_lower ho78 (keep_size (w := w) (g := g) (row := none) (kl))); replace BK287 := bb BK287 hb; replace BK296 := bb BK296 hb; replace HK := Aside0.mk (KeepBut.trans (kl) (KeepBut.of_below hb g none) (.inl rfl)); replace HB := Aside0.mk (below_step IsS101.b hb); replace HI0 := Aside0.mk (IsS101.below (IsS101.a) hb); clear hb ho78; obtain ⟨Ao79, co79, eo79⟩ := Kd.R_slice HO320.out; subst eo79) | ((with_reducible refine zf 46 rfl ?_); refine g1 (some 42) Try.func46 #[.pointer (some ⟨g, 0, none⟩), .slice Ao79 y318.length co79] ?_; (with_reducible refine (spec_l01Pick.calls g s0_0 t298 t299 _ _ y318 t321 t322 t323 w0 _ ?side1 ?side2 ?side3 ?side4 ?side5 A68.out).mono ?_); (case side1 => exact IsS101.a); (case side2 => exact IsS101.b); (case side3 => repeat (first | exact (Kd.R_reads' HO320.out).2.2 | (with_reducible refine Kd.C_alloc ?_ _) | (with_reducible refine Kd.C_drewN ?_ _) | (with_reducible refine Kd.C_drew ?_))); (case side4 => exact (Kd.R_reads' HO320.out).2.1); (case side5 => exact far_slice (IsS101.own_ne HI0.out HO320.out (by decide))); rintro e w80 ⟨rfl, hi, hb, hk⟩; refine ⟨_, rfl, ?_⟩; replace BK287 := kb hk BK287 NB287_0; replace BK296 := kb hk BK296 NB296_0; replace HO320 := Aside0.mk (Kd.R_mono (Kd.R_keep (IsS101.apart (IsS101.a : IsS101 w0 _ g s0_0 t298 t299) (by (with_reducible repeat (first | apply Kd.R_alloc | apply Kd.R_drewN | apply Kd.R_drew)); exact HO320.out) (by decide)) hk (fun _ h => h.2)) (fun _ h => h.1)); replace HK := Aside0.mk (KeepBut.trans (kl) hk (.inl rfl)); replace HI0 := Aside0.mk (hi); replace HB := Aside0.mk (hb); (try clear hb hk)))
     replace HO320 := Aside0.mk (Kd.R_drew HO320.out)
     replace BK287 := Aside0.mk (blk_drew BK287.out)
     replace BK296 := Aside0.mk (blk_drew BK296.out)
     replace HI0 := Aside0.mk (IsS101.drew HI0.out)
     replace HK := Aside0.mk (keep_drew HK.out)
     replace HB := Aside0.mk (below_drew1 HB.out)
     refine start_ (n := 4) (S := fun w' => w'.cell? ⟨gb296, 0, none⟩ = some (.int .i64 t291) ∧ w'.cell? ⟨gb296, 1, none⟩ = some (.int .i64 t292) ∧ w'.cell? ⟨gb296, 2, none⟩ = some (.int .i64 t293)) (ds := []) #[false, false, false, false] (by kernel_rfl) rfl rfl ⟨(blk_cell BK296.out 0).trans rfl, (blk_cell BK296.out 1).trans rfl, (blk_cell BK296.out 2).trans rfl⟩ (fun hHeld => ?_)
     generalize w80.drew = w81 at HO320 BK287 BK296 HI0 HK HB hHeld ⊢
     refine pr 0 (some 43) (tA 4 1) ?_
     refine pr 2 (some 2) (tA 4 5) ?_
     refine tr3 1 (some 44) (tA 4 7) hHeld ?_
     refine one_ (i := 3) (N := none) #[true, true, true, true] rfl rfl (by kernel_rfl) (by decide) (fun K hK => ?_)
     have hs82 : w81.cell? ⟨gb287, 0, none⟩ = some (.int .i64 0) := (blk_cell BK287.out 0).trans rfl
     have hfs82 := blk_frozen BK287.out 0
     obtain ⟨hns82_1, hms82_1⟩ := zm NB287_296
     have hs83 : w81.cell? ⟨gb287, 1, none⟩ = some (.int .i64 0) := (blk_cell BK287.out 1).trans rfl
     have hfs83 := blk_frozen BK287.out 1
     obtain ⟨hns83_1, hms83_1⟩ := zm NB287_296
     have hs84 : w81.cell? ⟨gb287, 2, none⟩ = some (.int .i64 0) := (blk_cell BK287.out 2).trans rfl
     have hfs84 := blk_frozen BK287.out 2
     obtain ⟨hns84_1, hms84_1⟩ := zm NB287_296
     refine skip_ (w1 := ?_) (by rfl) rfl ?_ ?_
     rotate_left
     ·go_simp
      rfl
     refine hK.out _ _ (m3 hHeld (fun e => cs gb287 NB287_296 (cs gb287 NB287_296 (cs gb287 NB287_296 e)))) (fun hHeld => ?_)
     clear hK K
     refine done_ (by kernel_rfl) ?_
     try go_wp2
     refine bodyPost_ret (results_tc rfl _ _ gb287 27 #[.int .i64 t291, .int .i64 t292, .int .i64 t293] (0, 0) _ rfl (bp) Try.underlying27 rfl (by kernel_rfl)) rfl ?_
     exact ⟨er, IsS101.a, IsS101.b, kl⟩
    ·obtain ⟨c67b0, c67b1⟩ := zy c67
     simp only [Option.some.injEq, Prod.mk.injEq] at H
     obtain ⟨rfl, rfl, rfl, rfl, rfl, rfl⟩ := H
     go_enter Try.func57, Try.ntmps57
     try go_wp2_with (first | ((with_reducible refine zg 3 rfl ?_); refine z3 3 27 0 0 0 ?_; intro gb287 hg w85 BK287 hb; have GW287 := Aside0.mk ((by rw [hg]; exact (keep_size (w := w) (g := g) (row := none) (kl)) : w.heap.size ≤ gb287)); have GE287 := Aside0.mk ((Nat.le_trans HW0.out (by rw [hg]; exact (keep_size (w := w) (g := g) (row := none) (kl)) : w.heap.size ≤ gb287) : w0.heap.size ≤ gb287)); have NB0_287 := Aside0.mk ((by rw [hg]; exact Nat.ne_of_lt (IsS101.lt (IsS101.a : IsS101 w0 _ g s0_0 s0_1 s0_2)) : g ≠ gb287)); have NB287_0 := Aside0.mk ((by rw [hg]; exact Nat.ne_of_gt (IsS101.lt (IsS101.a : IsS101 w0 _ g s0_0 s0_1 s0_2)) : gb287 ≠ g)); replace HK := Aside0.mk (KeepBut.trans (kl) (KeepBut.of_below hb g none) (.inl rfl)); replace HB := Aside0.mk (below_step IsS101.b hb); replace HI0 := Aside0.mk (IsS101.below (IsS101.a) hb); clear hb hg) | ((with_reducible refine zf 80 rfl ?_); refine g1 (some 7) Try.func80 #[.pointer (some ⟨g, 0, none⟩)] ?_; (with_reducible refine (spec_l01DrawPrime.calls g s0_0 s0_1 s0_2 t288 t289 t290 w0 _ ?side1 ?side2 A2.out).mono ?_); (case side1 => exact IsS101.a); (case side2 => exact IsS101.b); rintro e w86 ⟨rfl, hi, hb, hk⟩; refine ⟨_, rfl, ?_⟩; replace BK287 := kb hk BK287 NB287_0; replace HK := Aside0.mk (KeepBut.trans (kl) hk (.inl rfl)); replace HI0 := Aside0.mk (hi); replace HB := Aside0.mk (hb); (try clear hb hk)) | ((with_reducible refine zf 81 rfl ?_); refine g1 (some 10) Try.func81 #[.pointer (some ⟨g, 0, none⟩), .int .i64 t288] ?_; (with_reducible refine (spec_l03Draw.calls k g s0_0 t289 t290 t288 t291 t292 t293 t294 t295 w0 _ ?side1 ?side2 A3.out).mono ?_); (case side1 => exact IsS101.a); (case side2 => exact IsS101.b); rintro e w87 ⟨rfl, hi, hb, hk⟩; refine ⟨_, rfl, ?_⟩; replace BK287 := kb hk BK287 NB287_0; replace HK := Aside0.mk (KeepBut.trans (kl) hk (.inl rfl)); replace HI0 := Aside0.mk (hi); replace HB := Aside0.mk (hb); (try clear hb hk)) | ((with_reducible refine zg 5 rfl ?_); refine z3 5 27 0 0 0 ?_; intro gb296 hg w88 BK296 hb; have GW296 := Aside0.mk ((by rw [hg]; exact (keep_size (w := w) (g := g) (row := none) (kl)) : w.heap.size ≤ gb296)); have GE296 := Aside0.mk ((Nat.le_trans HW0.out (by rw [hg]; exact (keep_size (w := w) (g := g) (row := none) (kl)) : w.heap.size ≤ gb296) : w0.heap.size ≤ gb296)); have NB287_296 := nl hg BK287; have NB0_296 := Aside0.mk ((by rw [hg]; exact Nat.ne_of_lt (IsS101.lt (IsS101.a : IsS101 w0 _ g s0_0 t294 t295)) : g ≠ gb296)); have NB296_0 := Aside0.mk ((by rw [hg]; exact Nat.ne_of_gt (IsS101.lt (IsS101.a : IsS101 w0 _ g s0_0 t294 t295)) : gb296 ≠ g)); replace BK287 := bb BK287 hb; replace HK := Aside0.mk (KeepBut.trans (kl) (KeepBut.of_below hb g none) (.inl rfl)); replace HB := Aside0.mk (below_step IsS101.b hb); replace HI0 := Aside0.mk (IsS101.below (IsS101.a) hb); clear hb hg; obtain ⟨hnb89, hnc89⟩ := zm NB287_296; have hnb90 := NB296_0.out; have hnc90 := NB0_296.out; obtain ⟨hcz91_0, hcz91_1, hcz91_2, hfz91_0, hfz91_1, hfz91_2⟩ := cq3 BK296) | ((with_reducible refine zf 47 rfl ?_); refine g1 (some 12) Try.func47 #[.pointer (some ⟨g, 0, none⟩), .int .i64 40] ?_; (with_reducible refine (spec_l01Next.calls g s0_0 t294 t295 40 t297 t298 t299 w0 _ ?side1 ?side2 A4.out).mono ?_); (case side1 => exact IsS101.a); (case side2 => exact IsS101.b); rintro e w92 ⟨rfl, hi, hb, hk⟩; refine ⟨_, rfl, ?_⟩; replace BK287 := Aside0.mk (KeepBut.blk hk (g' := gb287) (o := .cells #[.int .i64 0, .int .i64 0, .int .i64 0] 27 (0, 0)) (bp) NB287_0.out (by simp)); replace BK296 := Aside0.mk (KeepBut.blk hk (g' := gb296) (o := .cells #[.int .i64 t291, .int .i64 t292, .int .i64 t293] 27 (0, 0)) (bp) NB296_0.out (by simp)); replace HK := Aside0.mk (KeepBut.trans (kl) hk (.inl rfl)); replace HI0 := Aside0.mk (hi); replace HB := Aside0.mk (hb); (try clear hb hk)))
     replace BK287 := Aside0.mk (blk_drew BK287.out)
     replace BK296 := Aside0.mk (blk_drew BK296.out)
     replace HI0 := Aside0.mk (IsS101.drew HI0.out)
     replace HK := Aside0.mk (keep_drew HK.out)
     replace HB := Aside0.mk (below_drew1 HB.out)
     refine start_ (n := 4) (S := fun w' => w'.cell? ⟨gb296, 0, none⟩ = some (.int .i64 t291) ∧ w'.cell? ⟨gb296, 1, none⟩ = some (.int .i64 t292) ∧ w'.cell? ⟨gb296, 2, none⟩ = some (.int .i64 t293)) (ds := []) #[false, false, false, false] (by kernel_rfl) rfl rfl ⟨(blk_cell BK296.out 0).trans rfl, (blk_cell BK296.out 1).trans rfl, (blk_cell BK296.out 2).trans rfl⟩ (fun hHeld => ?_)
     generalize w92.drew = w93 at BK287 BK296 HI0 HK HB hHeld ⊢
     refine pr 0 (some 43) (tA 4 1) ?_
     refine pr 2 (some 2) (tA 4 5) ?_
     refine tr3 1 (some 44) (tA 4 7) hHeld ?_
     refine one_ (i := 3) (N := none) #[true, true, true, true] rfl rfl (by kernel_rfl) (by decide) (fun K hK => ?_)
     have hs94 : w93.cell? ⟨gb287, 0, none⟩ = some (.int .i64 0) := (blk_cell BK287.out 0).trans rfl
     have hfs94 := blk_frozen BK287.out 0
     obtain ⟨hns94_1, hms94_1⟩ := zm NB287_296
     have hs95 : w93.cell? ⟨gb287, 1, none⟩ = some (.int .i64 0) := (blk_cell BK287.out 1).trans rfl
     have hfs95 := blk_frozen BK287.out 1
     obtain ⟨hns95_1, hms95_1⟩ := zm NB287_296
     have hs96 : w93.cell? ⟨gb287, 2, none⟩ = some (.int .i64 0) := (blk_cell BK287.out 2).trans rfl
     have hfs96 := blk_frozen BK287.out 2
     obtain ⟨hns96_1, hms96_1⟩ := zm NB287_296
     refine skip_ (w1 := ?_) (by rfl) rfl ?_ ?_
     rotate_left
     ·go_simp
      rfl
     refine hK.out _ _ (m3 hHeld (fun e => cs gb287 NB287_296 (cs gb287 NB287_296 (cs gb287 NB287_296 e)))) (fun hHeld => ?_)
     clear hK K
     refine done_ (by kernel_rfl) ?_
     try go_wp2
     refine bodyPost_ret (results_tc rfl _ _ gb287 27 #[.int .i64 t291, .int .i64 t292, .int .i64 t293] (0, 0) _ rfl (bp) Try.underlying27 rfl (by kernel_rfl)) rfl ?_
     exact ⟨er, IsS101.a, IsS101.b, kl⟩

/-! ### spec_DrawPrimitiveOf: function 19 -/
def spec_DrawPrimitiveOf.f (k : Nat) (l0 : List Int) : Option (Int × Int × Int × Int) := (spec_l01From.f k l0).bind fun bt325 => ((spec_l03Spoil.f k bt325.1 bt325.2.1 bt325.2.2).bind fun bt329 => (some (bt329.1, bt329.2.1, bt329.2.2.1, bt329.2.2.2.1)))
set_option maxHeartbeats 8000000 in
set_option maxRecDepth 100000 in
theorem spec_DrawPrimitiveOf.calls (k : Nat) (A0 : Option Addr) (c0 : Nat) (l0 : List Int) (r1 : Int) (r2 : Int) (r3 : Int) (r4 : Int) (w : World) (hr0 : Kd.C (Kd.int .u8) w A0 l0.length l0) (hc0 : l0.length ≤ c0) (h : spec_DrawPrimitiveOf.f k l0 = some (r1, r2, r3, r4)) :
  Calls Try.prog 19 #[.slice A0 l0.length c0] w fun e w' => e = .returned (.tuple #[.int .i64 r1, .agg #[.int .i64 r2, .int .i64 r3, .int .i64 r4]]) ∧ Below w.heap.size w w' := by
 have hu27 := Try.underlying27
 have HR0 := Aside0.mk hr0
 have HC0 := Aside0.mk hc0
 clear hr0 hc0
 have HB := Aside0.mk (Below.refl w.heap.size w)
 unfold spec_DrawPrimitiveOf.f at h
 have H := h
 clear h
 replace H := zi H
 obtain ⟨⟨t325, t326, t327⟩, A2, H⟩ := H
 try dsimp only at H
 replace H := zi H
 obtain ⟨⟨t329, t330, t331, t332, t333, t334⟩, A3, H⟩ := H
 try dsimp only at H
 simp only [Option.some.injEq, Prod.mk.injEq] at H
 obtain ⟨rfl, rfl, rfl, rfl⟩ := H
 go_enter Try.func19, Try.ntmps19
 try go_wp2_with (first | ((with_reducible refine zg 3 rfl ?_); refine z3 3 27 0 0 0 ?_; intro gb324 hg w4 BK324 hb; have GW324 := sg hg; replace HB := bs hb; clear hb hg) | ((with_reducible refine zf 45 rfl ?_); refine g1 (some 8) Try.func45 #[.slice A0 l0.length c0] ?_; (with_reducible refine (spec_l01From.calls k _ _ l0 t325 t326 t327 w _ ?side1 ?side2 ?side3 A2.out).mono ?_); (case side1 => exact bl); (case side2 => exact HR0.out); (case side3 => exact HC0.out); rintro e w5 ⟨g328, rfl, hi, hb, hb2⟩; refine ⟨_, rfl, ?_⟩; have HI328 := Aside0.mk (hi); have NB328_324 := Aside0.mk (IsS101.ne_blk hi (blk_below (g := gb324) (o := .cells #[.int .i64 0, .int .i64 0, .int .i64 0] 27 (0, 0)) (be BK324) hb2) (by decide)); have NB324_328 := Aside0.mk (Ne.symm (IsS101.ne_blk hi (blk_below (g := gb324) (o := .cells #[.int .i64 0, .int .i64 0, .int .i64 0] 27 (0, 0)) (be BK324) hb2) (by decide))); replace BK324 := Aside0.mk (blk_below (g := gb324) (o := .cells #[.int .i64 0, .int .i64 0, .int .i64 0] 27 (0, 0)) (be BK324) hb2); replace HB := Aside0.mk (hb); (try clear hb); (try clear hb2); (try clear hk); (try clear hi)) | ((with_reducible refine zf 57 rfl ?_); refine g1 (some 9) Try.func57 #[.pointer (some ⟨g328, 0, none⟩)] ?_; (with_reducible refine (spec_l03Spoil.calls k g328 t325 t326 t327 t329 t330 t331 t332 t333 t334 w _ ?side1 ?side2 A3.out).mono ?_); (case side1 => exact is101); (case side2 => exact ib101); rintro e w6 ⟨rfl, hi, hb, hk⟩; refine ⟨_, rfl, ?_⟩; replace BK324 := kb hk BK324 NB324_328; replace HI328 := Aside0.mk (hi); replace HB := Aside0.mk (hb); (try clear hb hk)) | ((with_reducible refine zg 5 rfl ?_); refine z3 5 27 0 0 0 ?_; intro gb335 hg w7 BK335 hb; have GW335 := Aside0.mk ((by rw [hg]; exact (below_size (ib101)) : w.heap.size ≤ gb335)); have GE335 := Aside0.mk ((by rw [hg]; exact (below_size (ib101)) : w.heap.size ≤ gb335)); have NB324_335 := nl hg BK324; have NB328_335 := Aside0.mk ((by rw [hg]; exact Nat.ne_of_lt (IsS101.lt (show IsS101 w _ g328 t325 t333 t334 from by exact is101)) : g328 ≠ gb335)); have NB335_328 := Aside0.mk ((by rw [hg]; exact Nat.ne_of_gt (IsS101.lt (show IsS101 w _ g328 t325 t333 t334 from by exact is101)) : gb335 ≠ g328)); replace BK324 := bb BK324 hb; replace HB := Aside0.mk (below_step (ib101) hb); replace HI328 := Aside0.mk (IsS101.below (is101) hb); clear hb hg; obtain ⟨hnb8, hnc8⟩ := zm NB324_335; have hnb9 := NB335_328.out; have hnc9 := NB328_335.out; obtain ⟨hcz10_0, hcz10_1, hcz10_2, hfz10_0, hfz10_1, hfz10_2⟩ := cq3 BK335))
 have n0_ : Aside0 ((((w7.setCell ⟨gb335, 0, none⟩ (.int .i64 t330)).setCell ⟨gb335, 1, none⟩ (.int .i64 t331)).setCell ⟨gb335, 2, none⟩ (.int .i64 t332)).heap[gb324]? = some (.cells #[.int .i64 0, .int .i64 0, .int .i64 0] 27 (0, 0))) := ⟨bp⟩
 have n1_ : Aside0 ((((w7.setCell ⟨gb335, 0, none⟩ (.int .i64 t330)).setCell ⟨gb335, 1, none⟩ (.int .i64 t331)).setCell ⟨gb335, 2, none⟩ (.int .i64 t332)).heap[gb335]? = some (.cells #[.int .i64 t330, .int .i64 t331, .int .i64 t332] 27 (0, 0))) := ⟨bp⟩
 have n2_ : Aside0 (IsS101 w (((w7.setCell ⟨gb335, 0, none⟩ (.int .i64 t330)).setCell ⟨gb335, 1, none⟩ (.int .i64 t331)).setCell ⟨gb335, 2, none⟩ (.int .i64 t332)) g328 t325 t333 t334) := ⟨by exact is101⟩
 have n3_ : Aside0 (Below w.heap.size w (((w7.setCell ⟨gb335, 0, none⟩ (.int .i64 t330)).setCell ⟨gb335, 1, none⟩ (.int .i64 t331)).setCell ⟨gb335, 2, none⟩ (.int .i64 t332))) := ⟨by exact ib101⟩
 (try clear BK324)
 (try clear BK335)
 (try clear HI328)
 (try clear HB)
 generalize (((w7.setCell ⟨gb335, 0, none⟩ (.int .i64 t330)).setCell ⟨gb335, 1, none⟩ (.int .i64 t331)).setCell ⟨gb335, 2, none⟩ (.int .i64 t332)) = w11 at n0_ n1_ n2_ n3_ ⊢
 have BK324 := n0_
 have BK335 := n1_
 have HI328 := n2_
 have HB := n3_
 clear n0_ n1_ n2_ n3_
 replace BK324 := Aside0.mk (blk_drew BK324.out)
 replace BK335 := Aside0.mk (blk_drew BK335.out)
 replace HI328 := Aside0.mk (IsS101.drew HI328.out)
 replace HB := Aside0.mk (below_drew1 HB.out)
 refine start_ (n := 4) (S := fun w' => w'.cell? ⟨gb335, 0, none⟩ = some (.int .i64 t330) ∧ w'.cell? ⟨gb335, 1, none⟩ = some (.int .i64 t331) ∧ w'.cell? ⟨gb335, 2, none⟩ = some (.int .i64 t332)) (ds := []) #[false, false, false, false] (by kernel_rfl) rfl rfl ⟨(blk_cell BK335.out 0).trans rfl, (blk_cell BK335.out 1).trans rfl, (blk_cell BK335.out 2).trans rfl⟩ (fun hHeld => ?_)
 generalize w11.drew = w12 at BK324 BK335 HI328 HB hHeld ⊢
 refine pr 0 (some 12) (tA 4 1) ?_
 refine pr 2 (some 2) (tA 4 5) ?_
 refine tr3 1 (some 13) (tA 4 7) hHeld ?_
 refine one_ (i := 3) (N := none) #[true, true, true, true] rfl rfl (by kernel_rfl) (by decide) (fun K hK => ?_)
 have hs13 : w12.cell? ⟨gb324, 0, none⟩ = some (.int .i64 0) := (blk_cell BK324.out 0).trans rfl
 have hfs13 := blk_frozen BK324.out 0
 obtain ⟨hns13_1, hms13_1⟩ := zm NB324_335
 have hs14 : w12.cell? ⟨gb324, 1, none⟩ = some (.int .i64 0) := (blk_cell BK324.out 1).trans rfl
 have hfs14 := blk_frozen BK324.out 1
 obtain ⟨hns14_1, hms14_1⟩ := zm NB324_335
 have hs15 : w12.cell? ⟨gb324, 2, none⟩ = some (.int .i64 0) := (blk_cell BK324.out 2).trans rfl
 have hfs15 := blk_frozen BK324.out 2
 obtain ⟨hns15_1, hms15_1⟩ := zm NB324_335
 refine skip_ (w1 := ?_) (by rfl) rfl ?_ ?_
 rotate_left
 ·go_simp
  rfl
 refine hK.out _ _ (m3 hHeld (fun e => cs gb324 NB324_335 (cs gb324 NB324_335 (cs gb324 NB324_335 e)))) (fun hHeld => ?_)
 clear hK K
 refine done_ (by kernel_rfl) ?_
 try go_wp2
 refine bodyPost_ret (results_tc rfl _ _ gb324 27 #[.int .i64 t330, .int .i64 t331, .int .i64 t332] (0, 0) _ rfl (bp) Try.underlying27 rfl (by kernel_rfl)) rfl ?_
 exact ⟨er, by exact ib101⟩

end Go.Proofs.Ytkfodnlogflcpaa.PFnLattices

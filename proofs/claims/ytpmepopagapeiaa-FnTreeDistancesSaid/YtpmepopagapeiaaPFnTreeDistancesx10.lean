-- Printed by the kit's print and repaired by a program of this session.
import Derived.Test.YtpmepopagapeiaaPFnTreeDistancesx0
import Derived.Test.YtpmepopagapeiaaPFnTreeDistancesx2
import Derived.Test.YtpmepopagapeiaaPFnTreeDistancesx7
import Derived.Test.YtpmepopagapeiaaPFnTreeDistancesx8
import Derived.Test.YtpmepopagapeiaaPFnTreeDistancesx9
namespace Go.Proofs.Ytpmepopagapeiaa.PFnTreeDistances
open Go.RowKit Go.Proofs.YtpmepopagapeiaaW.PrintWords Go.Proofs.YtpmepopagapeiaaW.PrintLast Go.Proofs.YtpmepopagapeiaaW.PrintMore
attribute [local go_sem] max2_int min2_int max_two min_two max_three min_three max_four min_four   -- for this text's walks alone
set_option linter.unusedVariables false
set_option linter.unusedSimpArgs false

/-! ### spec_l02Two: function 115 -/
mutual
def spec_l02Two.j0 : Nat → Int → Bool → List Int → Int → Int → Int → Int → Int → Int → Int → Int → Option (Int × Int × Int × Int × Int × Int × Int × Int × Int)
 | 0, _, _, _, _, _, _, _, _, _, _, _ => none
 | k + 1, x5, x31, x1000, x1001, x1002, x412000, x412001, x412002, x419000, x419001, x419002 => if x31 = true then ((spec_l01Next.f x1000 x1001 x1002 5).bind fun bt424 => (spec_l02Two.l0 k x5 bt424.1 x1000 bt424.2.1 bt424.2.2 x412000 x412001 x412002 x412000 x412001 x412002)) else ((spec_l01Bad.f x1000 x1001 x1002 x419000 x419001 x419002).bind fun bt440 => (some (x5, x412000, x412001, x412002, bt440.1, bt440.2.1, bt440.2.2.1, bt440.2.2.2.1, bt440.2.2.2.2)))
def spec_l02Two.l0 : Nat → Int → Int → List Int → Int → Int → Int → Int → Int → Int → Int → Int → Option (Int × Int × Int × Int × Int × Int × Int × Int × Int)
 | 0, _, _, _, _, _, _, _, _, _, _, _ => none
 | k + 1, x5, x8, x1000, x1001, x1002, x412000, x412001, x412002, x419000, x419001, x419002 => if x8 > 0 then ((spec_l02Near.f k x5 x419000 x419001 x419002).bind fun bt432 => (if bt432.2 = true then ((spec_l01Next.f x1000 x1001 x1002 (wrap64 (x5 + 1))).bind fun bt436 => (if 0 ≤ bt436.1 then (if bt436.1 < (bt432.1.length : Int) then (spec_l02Two.l0 k x5 (wrap64 (x8 - 1)) x1000 bt436.2.1 bt436.2.2 x412000 x412001 x412002 ((rd_T27 bt432.1 bt436.1).f0) ((rd_T27 bt432.1 bt436.1).f1) ((rd_T27 bt432.1 bt436.1).f2)) else (none)) else (none))) else (spec_l02Two.l0 k x5 (wrap64 (x8 - 1)) x1000 x1001 x1002 x412000 x412001 x412002 x419000 x419001 x419002))) else ((spec_l01Bad.f x1000 x1001 x1002 x419000 x419001 x419002).bind fun bt427 => (some (x5, x412000, x412001, x412002, bt427.1, bt427.2.1, bt427.2.2.1, bt427.2.2.2.1, bt427.2.2.2.2)))
end
def spec_l02Two.f (k : Nat) (s0_0 : List Int) (s0_1 : Int) (s0_2 : Int) : Option (Int × Int × Int × Int × Int × Int × Int × Int × Int) := (spec_l01Spoil.f k s0_0 s0_1 s0_2).bind fun bt405 => ((spec_l02Fine.f bt405.1).bind fun t412 => ((spec_l01Draw.f k s0_0 bt405.2.2.2.2.1 bt405.2.2.2.2.2 t412).bind fun bt413 => ((spec_l01Prime.f bt405.1).bind fun t419 => (if t419 = true then ((spec_l01Is.f k bt405.1 bt405.2.1 bt405.2.2.1 bt405.2.2.2.1).bind fun t420 => (if t420 = true then ((spec_l01Next.f s0_0 bt413.2.2.2.1 bt413.2.2.2.2 2).bind fun bt421 => (spec_l02Two.j0 k bt405.1 (bt421.1 == 0) s0_0 bt421.2.1 bt421.2.2 bt405.2.1 bt405.2.2.1 bt405.2.2.2.1 bt413.1 bt413.2.1 bt413.2.2.1)) else (spec_l02Two.j0 k bt405.1 false s0_0 bt413.2.2.2.1 bt413.2.2.2.2 bt405.2.1 bt405.2.2.1 bt405.2.2.2.1 bt413.1 bt413.2.1 bt413.2.2.1))) else (spec_l02Two.j0 k bt405.1 false s0_0 bt413.2.2.2.1 bt413.2.2.2.2 bt405.2.1 bt405.2.2.1 bt405.2.2.2.1 bt413.1 bt413.2.1 bt413.2.2.1)))))
theorem spec_l02Two.mono_l : ∀ k, (∀ y0 y1 y2 y3 y4 y5 y6 y7 y8 y9 y10, LeO (spec_l02Two.j0 k y0 y1 y2 y3 y4 y5 y6 y7 y8 y9 y10) (spec_l02Two.j0 (k + 1) y0 y1 y2 y3 y4 y5 y6 y7 y8 y9 y10)) ∧ (∀ y0 y1 y2 y3 y4 y5 y6 y7 y8 y9 y10, LeO (spec_l02Two.l0 k y0 y1 y2 y3 y4 y5 y6 y7 y8 y9 y10) (spec_l02Two.l0 (k + 1) y0 y1 y2 y3 y4 y5 y6 y7 y8 y9 y10))
 | 0 => ⟨fun _ _ _ _ _ _ _ _ _ _ _ r h => by simp [spec_l02Two.j0] at h, fun _ _ _ _ _ _ _ _ _ _ _ r h => by simp [spec_l02Two.l0] at h⟩
 | k + 1 => by
  obtain ⟨ih0, ih1⟩ := spec_l02Two.mono_l k
  refine ⟨?_, ?_⟩
  ·intro y0 y1 y2 y3 y4 y5 y6 y7 y8 y9 y10
   unfold spec_l02Two.j0
   repeat' first
   | (with_reducible exact ih0 _ _ _ _ _ _ _ _ _ _ _)
   | (with_reducible exact ih1 _ _ _ _ _ _ _ _ _ _ _)
   | (with_reducible exact spec_l01Draw.mono _ _ _ _ _)
   | (with_reducible exact spec_l01Is.mono _ _ _ _ _)
   | (with_reducible exact spec_l01Spoil.mono _ _ _ _)
   | (with_reducible exact spec_l02Near.mono _ _ _ _ _)
   | (with_reducible exact LeO.refl _)
   | (with_reducible exact LeO.none _)
   | (with_reducible refine LeO.ite ?_ ?_)
   | (with_reducible refine LeO.bind ?_ (fun _ => ?_))
   | refine LeO.ite ?_ ?_
   | refine LeO.bind ?_ (fun _ => ?_)
  ·intro y0 y1 y2 y3 y4 y5 y6 y7 y8 y9 y10
   unfold spec_l02Two.l0
   repeat' first
   | (with_reducible exact ih0 _ _ _ _ _ _ _ _ _ _ _)
   | (with_reducible exact ih1 _ _ _ _ _ _ _ _ _ _ _)
   | (with_reducible exact spec_l01Draw.mono _ _ _ _ _)
   | (with_reducible exact spec_l01Is.mono _ _ _ _ _)
   | (with_reducible exact spec_l01Spoil.mono _ _ _ _)
   | (with_reducible exact spec_l02Near.mono _ _ _ _ _)
   | (with_reducible exact LeO.refl _)
   | (with_reducible exact LeO.none _)
   | (with_reducible refine LeO.ite ?_ ?_)
   | (with_reducible refine LeO.bind ?_ (fun _ => ?_))
   | refine LeO.ite ?_ ?_
   | refine LeO.bind ?_ (fun _ => ?_)
theorem spec_l02Two.mono : ∀ a0 a1 a2 k, LeO (spec_l02Two.f k a0 a1 a2) (spec_l02Two.f (k + 1) a0 a1 a2) := by
 intro a0 a1 a2 k
 obtain ⟨ih0, ih1⟩ := spec_l02Two.mono_l k
 unfold spec_l02Two.f
 repeat' first
   | (with_reducible exact ih0 _ _ _ _ _ _ _ _ _ _ _)
   | (with_reducible exact ih1 _ _ _ _ _ _ _ _ _ _ _)
   | (with_reducible exact spec_l01Draw.mono _ _ _ _ _)
   | (with_reducible exact spec_l01Is.mono _ _ _ _ _)
   | (with_reducible exact spec_l01Spoil.mono _ _ _ _)
   | (with_reducible exact spec_l02Near.mono _ _ _ _ _)
   | (with_reducible exact LeO.refl _)
   | (with_reducible exact LeO.none _)
   | (with_reducible refine LeO.ite ?_ ?_)
   | (with_reducible refine LeO.bind ?_ (fun _ => ?_))
   | refine LeO.ite ?_ ?_
   | refine LeO.bind ?_ (fun _ => ?_)
def spec_l02Two.T11 : Bool × List (List Nat × List Nat) := (true, [([], []), ([], []), ([], []), ([], []), ([2, 3], [2, 3]), ([0, 4, 0], [0]), ([1, 5, 0, 1, 5], [1]), ([4, 6, 0, 1, 2, 3, 4, 5, 6], [4])])
def spec_l02Two.B11 : List Nat := [0, 0, 0, 0, 12, 29, 63, 127]
theorem spec_l02Two.tab11 : rtab .any (opsOf Try.f115 11) = spec_l02Two.T11 := by kernel_rfl
theorem spec_l02Two.bits11 : waitsOk spec_l02Two.T11.2 spec_l02Two.B11 = true := by kernel_rfl
set_option maxHeartbeats 8000000 in
set_option maxRecDepth 100000 in
theorem spec_l02Two.calls (k : Nat) (g : Nat) (s0_0 : List Int) (s0_1 : Int) (s0_2 : Int) (r1 : Int) (r2 : Int) (r3 : Int) (r4 : Int) (r5 : Int) (r6 : Int) (r7 : Int) (r8 : Int) (r9 : Int) (w0 w : World) (hI : IsS127 w0 w g s0_0 s0_1 s0_2) (hB : Below w0.heap.size w0 w) (h : spec_l02Two.f k s0_0 s0_1 s0_2 = some (r1, r2, r3, r4, r5, r6, r7, r8, r9)) :
  Calls Try.prog 115 #[.pointer (some ⟨g, 0, none⟩)] w fun e w' => e = .returned (.tuple #[.int .i64 r1, .agg #[.int .i64 r2, .int .i64 r3, .int .i64 r4], .agg #[.int .i64 r5, .int .i64 r6, .int .i64 r7]]) ∧ IsS127 w0 w' g s0_0 r8 r9 ∧ Below w0.heap.size w0 w' ∧ KeepBut w w' g none := by
 have hu27 := Try.underlying27
 have HI0 := Aside0.mk hI
 have HK := Aside0.mk (KeepBut.refl w g none)
 have HL := Aside0.mk hB.size
 clear hI
 have HW0 := Aside0.mk hB.size
 have HB := Aside0.mk hB
 clear hB
 have H : ((spec_l01Spoil.f k s0_0 s0_1 s0_2).bind fun bt405 => ((spec_l02Fine.f bt405.1).bind fun t412 => ((spec_l01Draw.f k s0_0 bt405.2.2.2.2.1 bt405.2.2.2.2.2 t412).bind fun bt413 => ((spec_l01Prime.f bt405.1).bind fun t419 => (if t419 = true then ((spec_l01Is.f k bt405.1 bt405.2.1 bt405.2.2.1 bt405.2.2.2.1).bind fun t420 => (if t420 = true then ((spec_l01Next.f s0_0 bt413.2.2.2.1 bt413.2.2.2.2 2).bind fun bt421 => (spec_l02Two.j0 k bt405.1 (bt421.1 == 0) s0_0 bt421.2.1 bt421.2.2 bt405.2.1 bt405.2.2.1 bt405.2.2.2.1 bt413.1 bt413.2.1 bt413.2.2.1)) else (spec_l02Two.j0 k bt405.1 false s0_0 bt413.2.2.2.1 bt413.2.2.2.2 bt405.2.1 bt405.2.2.1 bt405.2.2.2.1 bt413.1 bt413.2.1 bt413.2.2.1))) else (spec_l02Two.j0 k bt405.1 false s0_0 bt413.2.2.2.1 bt413.2.2.2.2 bt405.2.1 bt405.2.2.1 bt405.2.2.2.1 bt413.1 bt413.2.1 bt413.2.2.1)))))) = some (r1, r2, r3, r4, r5, r6, r7, r8, r9) := h
 clear h
 replace H := Option.bind_eq_some_iff.mp H
 obtain ⟨⟨t405, t406, t407, t408, t409, t410⟩, A20, H⟩ := H
 replace H : ((spec_l02Fine.f t405).bind fun t412 => ((spec_l01Draw.f k s0_0 t409 t410 t412).bind fun bt413 => ((spec_l01Prime.f t405).bind fun t419 => (if t419 = true then ((spec_l01Is.f k t405 t406 t407 t408).bind fun t420 => (if t420 = true then ((spec_l01Next.f s0_0 bt413.2.2.2.1 bt413.2.2.2.2 2).bind fun bt421 => (spec_l02Two.j0 k t405 (bt421.1 == 0) s0_0 bt421.2.1 bt421.2.2 t406 t407 t408 bt413.1 bt413.2.1 bt413.2.2.1)) else (spec_l02Two.j0 k t405 false s0_0 bt413.2.2.2.1 bt413.2.2.2.2 t406 t407 t408 bt413.1 bt413.2.1 bt413.2.2.1))) else (spec_l02Two.j0 k t405 false s0_0 bt413.2.2.2.1 bt413.2.2.2.2 t406 t407 t408 bt413.1 bt413.2.1 bt413.2.2.1))))) = some (r1, r2, r3, r4, r5, r6, r7, r8, r9) := H
 have A2 := Aside0.mk A20
 clear A20
 replace H := Option.bind_eq_some_iff.mp H
 obtain ⟨t412, A30, H⟩ := H
 replace H : ((spec_l01Draw.f k s0_0 t409 t410 t412).bind fun bt413 => ((spec_l01Prime.f t405).bind fun t419 => (if t419 = true then ((spec_l01Is.f k t405 t406 t407 t408).bind fun t420 => (if t420 = true then ((spec_l01Next.f s0_0 bt413.2.2.2.1 bt413.2.2.2.2 2).bind fun bt421 => (spec_l02Two.j0 k t405 (bt421.1 == 0) s0_0 bt421.2.1 bt421.2.2 t406 t407 t408 bt413.1 bt413.2.1 bt413.2.2.1)) else (spec_l02Two.j0 k t405 false s0_0 bt413.2.2.2.1 bt413.2.2.2.2 t406 t407 t408 bt413.1 bt413.2.1 bt413.2.2.1))) else (spec_l02Two.j0 k t405 false s0_0 bt413.2.2.2.1 bt413.2.2.2.2 t406 t407 t408 bt413.1 bt413.2.1 bt413.2.2.1)))) = some (r1, r2, r3, r4, r5, r6, r7, r8, r9) := H
 have A3 := Aside0.mk A30
 clear A30
 replace H := Option.bind_eq_some_iff.mp H
 obtain ⟨⟨t413, t414, t415, t416, t417⟩, A40, H⟩ := H
 replace H : ((spec_l01Prime.f t405).bind fun t419 => (if t419 = true then ((spec_l01Is.f k t405 t406 t407 t408).bind fun t420 => (if t420 = true then ((spec_l01Next.f s0_0 t416 t417 2).bind fun bt421 => (spec_l02Two.j0 k t405 (bt421.1 == 0) s0_0 bt421.2.1 bt421.2.2 t406 t407 t408 t413 t414 t415)) else (spec_l02Two.j0 k t405 false s0_0 t416 t417 t406 t407 t408 t413 t414 t415))) else (spec_l02Two.j0 k t405 false s0_0 t416 t417 t406 t407 t408 t413 t414 t415))) = some (r1, r2, r3, r4, r5, r6, r7, r8, r9) := H
 have A4 := Aside0.mk A40
 clear A40
 have HC5 := Aside0.mk H
 clear H
 go_enter Try.func115, Try.ntmps115
 go_upto_region 3 with (first | ((with_reducible refine gate_dst (N := 3) rfl ?_); refine bx (N := 3) (cs := #[.int .i64 0, .int .i64 0, .int .i64 0]) (t := 27) ?_; intro gb403 hg w6 hbox hb; have BK403 := Aside0.mk (hbox); have GW403 := Aside0.mk ((by rw [hg]; exact (keep_size (w := w) (g := g) (row := none) (by repeat (first | (with_reducible first | exact HK.out | apply KeepBut.set_ | apply keep_drewN | apply keep_drew | apply keep_alloc) | exact HK.out))) : w.heap.size ≤ gb403)); have GE403 := Aside0.mk ((Nat.le_trans HW0.out (by rw [hg]; exact (keep_size (w := w) (g := g) (row := none) (by repeat (first | (with_reducible first | exact HK.out | apply KeepBut.set_ | apply keep_drewN | apply keep_drew | apply keep_alloc) | exact HK.out))) : w.heap.size ≤ gb403) : w0.heap.size ≤ gb403)); have NB0_403 := Aside0.mk ((by rw [hg]; exact Nat.ne_of_lt (IsS127.lt (show IsS127 w0 _ g s0_0 s0_1 s0_2 from by repeat (first | (with_reducible first | exact HI0.out | apply IsS127.alloc | apply IsS127.drewN | apply IsS127.drew | apply IsS127.set_1 | apply IsS127.set_2) | exact HI0.out))) : g ≠ gb403)); have NB403_0 := Aside0.mk ((by rw [hg]; exact Nat.ne_of_gt (IsS127.lt (show IsS127 w0 _ g s0_0 s0_1 s0_2 from by repeat (first | (with_reducible first | exact HI0.out | apply IsS127.alloc | apply IsS127.drewN | apply IsS127.drew | apply IsS127.set_1 | apply IsS127.set_2) | exact HI0.out))) : gb403 ≠ g)); replace HK := Aside0.mk (KeepBut.trans (by repeat (first | (with_reducible first | exact HK.out | apply KeepBut.set_ | apply keep_drewN | apply keep_drew | apply keep_alloc) | exact HK.out)) (KeepBut.of_below hb g none) (.inl rfl)); replace HB := Aside0.mk (below_step (by repeat (first | (with_reducible first | exact HB.out | apply below_alloc | apply pw_below_drewN | apply below_drew1 | refine below_set ?_ (IsS127.ge HI0.out)) | exact HB.out)) hb); replace HI0 := Aside0.mk (IsS127.below (by repeat (first | (with_reducible first | exact HI0.out | apply IsS127.alloc | apply IsS127.drewN | apply IsS127.drew | apply IsS127.set_1 | apply IsS127.set_2) | exact HI0.out)) hb); clear hb hbox hg) | ((with_reducible refine gate_dst (N := 4) rfl ?_); refine bx (N := 4) (cs := #[.int .i64 0, .int .i64 0, .int .i64 0]) (t := 27) ?_; intro gb404 hg w7 hbox hb; have BK404 := Aside0.mk (hbox); have GW404 := Aside0.mk ((by rw [hg]; exact (keep_size (w := w) (g := g) (row := none) (by repeat (first | (with_reducible first | exact HK.out | apply KeepBut.set_ | apply keep_drewN | apply keep_drew | apply keep_alloc | refine keep_far ?_ GW403.out _) | exact HK.out))) : w.heap.size ≤ gb404)); have GE404 := Aside0.mk ((Nat.le_trans HW0.out (by rw [hg]; exact (keep_size (w := w) (g := g) (row := none) (by repeat (first | (with_reducible first | exact HK.out | apply KeepBut.set_ | apply keep_drewN | apply keep_drew | apply keep_alloc | refine keep_far ?_ GW403.out _) | exact HK.out))) : w.heap.size ≤ gb404) : w0.heap.size ≤ gb404)); have NB403_404 := nl hg BK403; have NB404_403 := ng hg BK403; have NB0_404 := Aside0.mk ((by rw [hg]; exact Nat.ne_of_lt (IsS127.lt (show IsS127 w0 _ g s0_0 s0_1 s0_2 from by repeat (first | (with_reducible first | exact HI0.out | apply IsS127.alloc | apply IsS127.drewN | apply IsS127.drew | apply IsS127.set_1 | apply IsS127.set_2 | refine IsS127.far ?_ NB0_403.out _) | exact HI0.out))) : g ≠ gb404)); have NB404_0 := Aside0.mk ((by rw [hg]; exact Nat.ne_of_gt (IsS127.lt (show IsS127 w0 _ g s0_0 s0_1 s0_2 from by repeat (first | (with_reducible first | exact HI0.out | apply IsS127.alloc | apply IsS127.drewN | apply IsS127.drew | apply IsS127.set_1 | apply IsS127.set_2 | refine IsS127.far ?_ NB0_403.out _) | exact HI0.out))) : gb404 ≠ g)); replace BK403 := bb BK403 hb; replace HK := Aside0.mk (KeepBut.trans (by repeat (first | (with_reducible first | exact HK.out | apply KeepBut.set_ | apply keep_drewN | apply keep_drew | apply keep_alloc | refine keep_far ?_ GW403.out _) | exact HK.out)) (KeepBut.of_below hb g none) (.inl rfl)); replace HB := Aside0.mk (below_step (by repeat (first | (with_reducible first | exact HB.out | apply below_alloc | apply pw_below_drewN | apply below_drew1 | refine below_set ?_ (IsS127.ge HI0.out) | refine below_set ?_ GE403.out) | exact HB.out)) hb); replace HI0 := Aside0.mk (IsS127.below (by repeat (first | (with_reducible first | exact HI0.out | apply IsS127.alloc | apply IsS127.drewN | apply IsS127.drew | apply IsS127.set_1 | apply IsS127.set_2 | refine IsS127.far ?_ NB0_403.out _) | exact HI0.out)) hb); clear hb hbox hg) | ((with_reducible refine gate_callee (f := 99) rfl ?_); refine g1 (some 13) Try.func99 #[.pointer (some ⟨g, 0, none⟩)] ?_; (with_reducible refine (spec_l01Spoil.calls k g s0_0 s0_1 s0_2 t405 t406 t407 t408 t409 t410 w0 _ ?side1 ?side2 A2.out).mono ?_); (case side1 => repeat (first | (with_reducible first | exact HI0.out | apply IsS127.alloc | apply IsS127.drewN | apply IsS127.drew | apply IsS127.set_1 | apply IsS127.set_2 | refine IsS127.far ?_ NB0_403.out _ | refine IsS127.far ?_ NB0_404.out _) | exact HI0.out)); (case side2 => repeat (first | (with_reducible first | exact HB.out | apply below_alloc | apply pw_below_drewN | apply below_drew1 | refine below_set ?_ (IsS127.ge HI0.out) | refine below_set ?_ GE403.out | refine below_set ?_ GE404.out) | exact HB.out)); rintro e w8 ⟨rfl, hi, hb, hk⟩; refine ⟨_, rfl, ?_⟩; replace BK403 := Aside0.mk (KeepBut.blk hk (g' := gb403) (o := .cells #[.int .i64 0, .int .i64 0, .int .i64 0] 27 (0, 0)) (be BK403) NB403_0.out (by simp)); replace BK404 := Aside0.mk (KeepBut.blk hk (g' := gb404) (o := .cells #[.int .i64 0, .int .i64 0, .int .i64 0] 27 (0, 0)) (be BK404) NB404_0.out (by simp)); replace HK := Aside0.mk (KeepBut.trans (by repeat (first | (with_reducible first | exact HK.out | apply KeepBut.set_ | apply keep_drewN | apply keep_drew | apply keep_alloc | refine keep_far ?_ GW403.out _ | refine keep_far ?_ GW404.out _) | exact HK.out)) hk (.inl rfl)); replace HI0 := Aside0.mk (hi); replace HB := Aside0.mk (hb); (try clear hb); (try clear hb2); (try clear hk); (try clear hi)) | ((with_reducible refine gate_dst (N := 6) rfl ?_); refine bx (N := 6) (cs := #[.int .i64 0, .int .i64 0, .int .i64 0]) (t := 27) ?_; intro gb411 hg w9 hbox hb; have BK411 := Aside0.mk (hbox); have GW411 := Aside0.mk ((by rw [hg]; exact (keep_size (w := w) (g := g) (row := none) (by repeat (first | (with_reducible first | exact HK.out | apply KeepBut.set_ | apply keep_drewN | apply keep_drew | apply keep_alloc | refine keep_far ?_ GW403.out _ | refine keep_far ?_ GW404.out _) | exact HK.out))) : w.heap.size ≤ gb411)); have GE411 := Aside0.mk ((Nat.le_trans HW0.out (by rw [hg]; exact (keep_size (w := w) (g := g) (row := none) (by repeat (first | (with_reducible first | exact HK.out | apply KeepBut.set_ | apply keep_drewN | apply keep_drew | apply keep_alloc | refine keep_far ?_ GW403.out _ | refine keep_far ?_ GW404.out _) | exact HK.out))) : w.heap.size ≤ gb411) : w0.heap.size ≤ gb411)); have NB403_411 := nl hg BK403; have NB411_403 := ng hg BK403; have NB404_411 := nl hg BK404; have NB411_404 := ng hg BK404; have NB0_411 := Aside0.mk ((by rw [hg]; exact Nat.ne_of_lt (IsS127.lt (show IsS127 w0 _ g s0_0 t409 t410 from by repeat (first | (with_reducible first | exact HI0.out | apply IsS127.alloc | apply IsS127.drewN | apply IsS127.drew | apply IsS127.set_1 | apply IsS127.set_2 | refine IsS127.far ?_ NB0_403.out _ | refine IsS127.far ?_ NB0_404.out _) | exact HI0.out))) : g ≠ gb411)); have NB411_0 := Aside0.mk ((by rw [hg]; exact Nat.ne_of_gt (IsS127.lt (show IsS127 w0 _ g s0_0 t409 t410 from by repeat (first | (with_reducible first | exact HI0.out | apply IsS127.alloc | apply IsS127.drewN | apply IsS127.drew | apply IsS127.set_1 | apply IsS127.set_2 | refine IsS127.far ?_ NB0_403.out _ | refine IsS127.far ?_ NB0_404.out _) | exact HI0.out))) : gb411 ≠ g)); replace BK403 := bb BK403 hb; replace BK404 := bb BK404 hb; replace HK := Aside0.mk (KeepBut.trans (by repeat (first | (with_reducible first | exact HK.out | apply KeepBut.set_ | apply keep_drewN | apply keep_drew | apply keep_alloc | refine keep_far ?_ GW403.out _ | refine keep_far ?_ GW404.out _) | exact HK.out)) (KeepBut.of_below hb g none) (.inl rfl)); replace HB := Aside0.mk (below_step (by repeat (first | (with_reducible first | exact HB.out | apply below_alloc | apply pw_below_drewN | apply below_drew1 | refine below_set ?_ (IsS127.ge HI0.out) | refine below_set ?_ GE403.out | refine below_set ?_ GE404.out) | exact HB.out)) hb); replace HI0 := Aside0.mk (IsS127.below (by repeat (first | (with_reducible first | exact HI0.out | apply IsS127.alloc | apply IsS127.drewN | apply IsS127.drew | apply IsS127.set_1 | apply IsS127.set_2 | refine IsS127.far ?_ NB0_403.out _ | refine IsS127.far ?_ NB0_404.out _) | exact HI0.out)) hb); clear hb hbox hg; have hnb10 := NB411_403.out; have hnc10 := NB403_411.out; have hnb11 := NB411_404.out; have hnc11 := NB404_411.out; have hnb12 := NB411_0.out; have hnc12 := NB0_411.out; obtain ⟨hcz13_0, hcz13_1, hcz13_2, hfz13_0, hfz13_1, hfz13_2⟩ := c3 BK411) | ((with_reducible refine gate_callee (f := 117) rfl ?_); refine g1 (some 18) Try.func117 #[.int .i64 t405] ?_; (with_reducible refine (spec_l02Fine.calls t405 t412 _ A3.out).mono ?_); rintro e w' ⟨rfl, ⟨nd, rfl⟩⟩; refine ⟨_, rfl, ?_⟩) | ((with_reducible refine gate_callee (f := 116) rfl ?_); refine g1 (some 19) Try.func116 #[.pointer (some ⟨g, 0, none⟩), .int .i64 t412] ?_; (with_reducible refine (spec_l01Draw.calls k g s0_0 t409 t410 t412 t413 t414 t415 t416 t417 w0 _ ?side1 ?side2 A4.out).mono ?_); (case side1 => repeat (first | (with_reducible first | exact HI0.out | apply IsS127.alloc | apply IsS127.drewN | apply IsS127.drew | apply IsS127.set_1 | apply IsS127.set_2 | refine IsS127.far ?_ NB0_403.out _ | refine IsS127.far ?_ NB0_404.out _ | refine IsS127.far ?_ NB0_411.out _) | exact HI0.out)); (case side2 => repeat (first | (with_reducible first | exact HB.out | apply below_alloc | apply pw_below_drewN | apply below_drew1 | refine below_set ?_ (IsS127.ge HI0.out) | refine below_set ?_ GE403.out | refine below_set ?_ GE404.out | refine below_set ?_ GE411.out) | exact HB.out)); rintro e w14 ⟨rfl, hi, hb, hk⟩; refine ⟨_, rfl, ?_⟩; replace BK403 := Aside0.mk (KeepBut.blk hk (g' := gb403) (o := .cells #[.int .i64 0, .int .i64 0, .int .i64 0] 27 (0, 0)) (by (with_reducible repeat (first | apply bn | apply bd | apply ba)); refine blk_far ?_ NB403_411.out _; (with_reducible repeat (first | apply bn | apply bd | apply ba)); refine blk_far ?_ NB403_411.out _; (with_reducible repeat (first | apply bn | apply bd | apply ba)); refine blk_far ?_ NB403_411.out _; (with_reducible repeat (first | apply bn | apply bd | apply ba)); exact BK403.out) NB403_0.out (by simp)); replace BK404 := Aside0.mk (KeepBut.blk hk (g' := gb404) (o := .cells #[.int .i64 0, .int .i64 0, .int .i64 0] 27 (0, 0)) (by (with_reducible repeat (first | apply bn | apply bd | apply ba)); refine blk_far ?_ NB404_411.out _; (with_reducible repeat (first | apply bn | apply bd | apply ba)); refine blk_far ?_ NB404_411.out _; (with_reducible repeat (first | apply bn | apply bd | apply ba)); refine blk_far ?_ NB404_411.out _; (with_reducible repeat (first | apply bn | apply bd | apply ba)); exact BK404.out) NB404_0.out (by simp)); replace BK411 := Aside0.mk (KeepBut.blk hk (g' := gb411) (o := .cells #[.int .i64 t406, .int .i64 t407, .int .i64 t408] 27 (0, 0)) (by (with_reducible repeat (first | apply bn | apply bd | apply ba)); refine blk_put (cs := #[.int .i64 t406, .int .i64 t407, .int .i64 0]) ?_ 2 _ rfl; (with_reducible repeat (first | apply bn | apply bd | apply ba)); refine blk_put (cs := #[.int .i64 t406, .int .i64 0, .int .i64 0]) ?_ 1 _ rfl; (with_reducible repeat (first | apply bn | apply bd | apply ba)); refine blk_put (cs := #[.int .i64 0, .int .i64 0, .int .i64 0]) ?_ 0 _ rfl; (with_reducible repeat (first | apply bn | apply bd | apply ba)); exact BK411.out) NB411_0.out (by simp)); replace HK := Aside0.mk (KeepBut.trans (by repeat (first | (with_reducible first | exact HK.out | apply KeepBut.set_ | apply keep_drewN | apply keep_drew | apply keep_alloc | refine keep_far ?_ GW403.out _ | refine keep_far ?_ GW404.out _ | refine keep_far ?_ GW411.out _) | exact HK.out)) hk (.inl rfl)); replace HI0 := Aside0.mk (hi); replace HB := Aside0.mk (hb); (try clear hb); (try clear hb2); (try clear hk); (try clear hi)) | ((with_reducible refine gate_dst (N := 7) rfl ?_); refine bx (N := 7) (cs := #[.int .i64 0, .int .i64 0, .int .i64 0]) (t := 27) ?_; intro gb418 hg w15 hbox hb; have BK418 := Aside0.mk (hbox); have GW418 := Aside0.mk ((by rw [hg]; exact (keep_size (w := w) (g := g) (row := none) (by repeat (first | (with_reducible first | exact HK.out | apply KeepBut.set_ | apply keep_drewN | apply keep_drew | apply keep_alloc | refine keep_far ?_ GW403.out _ | refine keep_far ?_ GW404.out _ | refine keep_far ?_ GW411.out _) | exact HK.out))) : w.heap.size ≤ gb418)); have GE418 := Aside0.mk ((Nat.le_trans HW0.out (by rw [hg]; exact (keep_size (w := w) (g := g) (row := none) (by repeat (first | (with_reducible first | exact HK.out | apply KeepBut.set_ | apply keep_drewN | apply keep_drew | apply keep_alloc | refine keep_far ?_ GW403.out _ | refine keep_far ?_ GW404.out _ | refine keep_far ?_ GW411.out _) | exact HK.out))) : w.heap.size ≤ gb418) : w0.heap.size ≤ gb418)); have NB403_418 := nl hg BK403; have NB418_403 := ng hg BK403; have NB404_418 := nl hg BK404; have NB418_404 := ng hg BK404; have NB411_418 := nl hg BK411; have NB418_411 := ng hg BK411; have NB0_418 := Aside0.mk ((by rw [hg]; exact Nat.ne_of_lt (IsS127.lt (show IsS127 w0 _ g s0_0 t416 t417 from by repeat (first | (with_reducible first | exact HI0.out | apply IsS127.alloc | apply IsS127.drewN | apply IsS127.drew | apply IsS127.set_1 | apply IsS127.set_2 | refine IsS127.far ?_ NB0_403.out _ | refine IsS127.far ?_ NB0_404.out _ | refine IsS127.far ?_ NB0_411.out _) | exact HI0.out))) : g ≠ gb418)); have NB418_0 := Aside0.mk ((by rw [hg]; exact Nat.ne_of_gt (IsS127.lt (show IsS127 w0 _ g s0_0 t416 t417 from by repeat (first | (with_reducible first | exact HI0.out | apply IsS127.alloc | apply IsS127.drewN | apply IsS127.drew | apply IsS127.set_1 | apply IsS127.set_2 | refine IsS127.far ?_ NB0_403.out _ | refine IsS127.far ?_ NB0_404.out _ | refine IsS127.far ?_ NB0_411.out _) | exact HI0.out))) : gb418 ≠ g)); replace BK403 := bb BK403 hb; replace BK404 := bb BK404 hb; replace BK411 := bb BK411 hb; replace HK := Aside0.mk (KeepBut.trans (by repeat (first | (with_reducible first | exact HK.out | apply KeepBut.set_ | apply keep_drewN | apply keep_drew | apply keep_alloc | refine keep_far ?_ GW403.out _ | refine keep_far ?_ GW404.out _ | refine keep_far ?_ GW411.out _) | exact HK.out)) (KeepBut.of_below hb g none) (.inl rfl)); replace HB := Aside0.mk (below_step (by repeat (first | (with_reducible first | exact HB.out | apply below_alloc | apply pw_below_drewN | apply below_drew1 | refine below_set ?_ (IsS127.ge HI0.out) | refine below_set ?_ GE403.out | refine below_set ?_ GE404.out | refine below_set ?_ GE411.out) | exact HB.out)) hb); replace HI0 := Aside0.mk (IsS127.below (by repeat (first | (with_reducible first | exact HI0.out | apply IsS127.alloc | apply IsS127.drewN | apply IsS127.drew | apply IsS127.set_1 | apply IsS127.set_2 | refine IsS127.far ?_ NB0_403.out _ | refine IsS127.far ?_ NB0_404.out _ | refine IsS127.far ?_ NB0_411.out _) | exact HI0.out)) hb); clear hb hbox hg; have hnb16 := NB418_403.out; have hnc16 := NB403_418.out; have hnb17 := NB418_404.out; have hnc17 := NB404_418.out; have hnb18 := NB418_411.out; have hnc18 := NB411_418.out; have hnb19 := NB418_0.out; have hnc19 := NB0_418.out; obtain ⟨hcz20_0, hcz20_1, hcz20_2, hfz20_0, hfz20_1, hfz20_2⟩ := c3 BK418))
 (try simp only [Act.put, List.setIfInBounds_toArray, List.set_cons_zero, List.set_cons_succ])
 go_cut [31] (fun v31 wc => ∃ (kq : Nat) (x31_4 : Bool) (x1001_4 : Int) (x1002_4 : Int), v31 = .bool x31_4 ∧ Aside0 (spec_l02Two.j0 kq t405 x31_4 s0_0 x1001_4 x1002_4 t406 t407 t408 t413 t414 t415 = some (r1, r2, r3, r4, r5, r6, r7, r8, r9)) ∧ Aside0 (kq ≤ k) ∧ Aside0 (wc.heap[gb403]? = some (.cells #[.int .i64 0, .int .i64 0, .int .i64 0] 27 (0, 0))) ∧ Aside0 (wc.heap[gb404]? = some (.cells #[.int .i64 0, .int .i64 0, .int .i64 0] 27 (0, 0))) ∧ Aside0 (wc.heap[gb411]? = some (.cells #[.int .i64 t406, .int .i64 t407, .int .i64 t408] 27 (0, 0))) ∧ Aside0 (wc.heap[gb418]? = some (.cells #[.int .i64 t413, .int .i64 t414, .int .i64 t415] 27 (0, 0))) ∧ Aside0 (IsS127 w0 wc g s0_0 x1001_4 x1002_4) ∧ Aside0 (KeepBut w wc g none) ∧ Aside0 (Below w0.heap.size w0 wc))
 case first =>
  have H := HC5.out
  clear HC5
  replace H := Option.bind_eq_some_iff.mp H
  obtain ⟨t419, A210, H⟩ := H
  replace H : (if t419 = true then ((spec_l01Is.f k t405 t406 t407 t408).bind fun t420 => (if t420 = true then ((spec_l01Next.f s0_0 t416 t417 2).bind fun bt421 => (spec_l02Two.j0 k t405 (bt421.1 == 0) s0_0 bt421.2.1 bt421.2.2 t406 t407 t408 t413 t414 t415)) else (spec_l02Two.j0 k t405 false s0_0 t416 t417 t406 t407 t408 t413 t414 t415))) else (spec_l02Two.j0 k t405 false s0_0 t416 t417 t406 t407 t408 t413 t414 t415)) = some (r1, r2, r3, r4, r5, r6, r7, r8, r9) := H
  have A21 := Aside0.mk A210
  clear A210
  by_cases c22 : t419 = true
  ·subst c22
   have H1 : ((spec_l01Is.f k t405 t406 t407 t408).bind fun t420 => (if t420 = true then ((spec_l01Next.f s0_0 t416 t417 2).bind fun bt421 => (spec_l02Two.j0 k t405 (bt421.1 == 0) s0_0 bt421.2.1 bt421.2.2 t406 t407 t408 t413 t414 t415)) else (spec_l02Two.j0 k t405 false s0_0 t416 t417 t406 t407 t408 t413 t414 t415))) = some (r1, r2, r3, r4, r5, r6, r7, r8, r9) := by rw [if_pos rfl] at H; exact H
   clear H
   have H := H1
   clear H1
   replace H := Option.bind_eq_some_iff.mp H
   obtain ⟨t420, A230, H⟩ := H
   replace H : (if t420 = true then ((spec_l01Next.f s0_0 t416 t417 2).bind fun bt421 => (spec_l02Two.j0 k t405 (bt421.1 == 0) s0_0 bt421.2.1 bt421.2.2 t406 t407 t408 t413 t414 t415)) else (spec_l02Two.j0 k t405 false s0_0 t416 t417 t406 t407 t408 t413 t414 t415)) = some (r1, r2, r3, r4, r5, r6, r7, r8, r9) := H
   have A23 := Aside0.mk A230
   clear A230
   by_cases c24 : t420 = true
   ·subst c24
    have H1 : ((spec_l01Next.f s0_0 t416 t417 2).bind fun bt421 => (spec_l02Two.j0 k t405 (bt421.1 == 0) s0_0 bt421.2.1 bt421.2.2 t406 t407 t408 t413 t414 t415)) = some (r1, r2, r3, r4, r5, r6, r7, r8, r9) := by rw [if_pos rfl] at H; exact H
    clear H
    have H := H1
    clear H1
    replace H := Option.bind_eq_some_iff.mp H
    obtain ⟨⟨t421, t422, t423⟩, A250, H⟩ := H
    replace H : (spec_l02Two.j0 k t405 (t421 == 0) s0_0 t422 t423 t406 t407 t408 t413 t414 t415) = some (r1, r2, r3, r4, r5, r6, r7, r8, r9) := H
    have A25 := Aside0.mk A250
    clear A250
    have H' := Aside0.mk H
    clear H
    go_wp2_with (first | ((with_reducible refine gate_callee (f := 120) rfl ?_); refine g1 (some 21) Try.func120 #[.int .i64 t405] ?_; (with_reducible refine (spec_l01Prime.calls t405 true _ A21.out).mono ?_); rintro e w' ⟨rfl, ⟨nd, rfl⟩⟩; refine ⟨_, rfl, ?_⟩; have hnb26 := NB411_403.out; have hnc26 := NB403_411.out; have hnb27 := NB411_404.out; have hnc27 := NB404_411.out; have hnb28 := NB411_418.out; have hnc28 := NB418_411.out; have hnb29 := NB411_0.out; have hnc29 := NB0_411.out; obtain ⟨hcz30_0, hcz30_1, hcz30_2, hfz30_0, hfz30_1, hfz30_2⟩ := c3 BK411) | (go_at_call 134; (with_reducible refine (spec_l01Is.calls k t405 t406 t407 t408 true _ A23.out).mono ?_); rintro e w31 ⟨rfl, hb⟩; replace BK403 := Aside0.mk (blk_below (g := gb403) (o := .cells #[.int .i64 0, .int .i64 0, .int .i64 0] 27 (0, 0)) (by (with_reducible repeat (first | apply bn | apply bd | apply ba)); refine blk_far ?_ NB403_418.out _; (with_reducible repeat (first | apply bn | apply bd | apply ba)); refine blk_far ?_ NB403_418.out _; (with_reducible repeat (first | apply bn | apply bd | apply ba)); refine blk_far ?_ NB403_418.out _; (with_reducible repeat (first | apply bn | apply bd | apply ba)); exact BK403.out) hb); replace BK404 := Aside0.mk (blk_below (g := gb404) (o := .cells #[.int .i64 0, .int .i64 0, .int .i64 0] 27 (0, 0)) (by (with_reducible repeat (first | apply bn | apply bd | apply ba)); refine blk_far ?_ NB404_418.out _; (with_reducible repeat (first | apply bn | apply bd | apply ba)); refine blk_far ?_ NB404_418.out _; (with_reducible repeat (first | apply bn | apply bd | apply ba)); refine blk_far ?_ NB404_418.out _; (with_reducible repeat (first | apply bn | apply bd | apply ba)); exact BK404.out) hb); replace BK411 := Aside0.mk (blk_below (g := gb411) (o := .cells #[.int .i64 t406, .int .i64 t407, .int .i64 t408] 27 (0, 0)) (by (with_reducible repeat (first | apply bn | apply bd | apply ba)); refine blk_far ?_ NB411_418.out _; (with_reducible repeat (first | apply bn | apply bd | apply ba)); refine blk_far ?_ NB411_418.out _; (with_reducible repeat (first | apply bn | apply bd | apply ba)); refine blk_far ?_ NB411_418.out _; (with_reducible repeat (first | apply bn | apply bd | apply ba)); exact BK411.out) hb); replace BK418 := Aside0.mk (blk_below (g := gb418) (o := .cells #[.int .i64 t413, .int .i64 t414, .int .i64 t415] 27 (0, 0)) (by (with_reducible repeat (first | apply bn | apply bd | apply ba)); refine blk_put (cs := #[.int .i64 t413, .int .i64 t414, .int .i64 0]) ?_ 2 _ rfl; (with_reducible repeat (first | apply bn | apply bd | apply ba)); refine blk_put (cs := #[.int .i64 t413, .int .i64 0, .int .i64 0]) ?_ 1 _ rfl; (with_reducible repeat (first | apply bn | apply bd | apply ba)); refine blk_put (cs := #[.int .i64 0, .int .i64 0, .int .i64 0]) ?_ 0 _ rfl; (with_reducible repeat (first | apply bn | apply bd | apply ba)); exact BK418.out) hb); replace HK := Aside0.mk (KeepBut.trans (by repeat (first | (with_reducible first | exact HK.out | apply KeepBut.set_ | apply keep_drewN | apply keep_drew | apply keep_alloc | refine keep_far ?_ GW403.out _ | refine keep_far ?_ GW404.out _ | refine keep_far ?_ GW411.out _ | refine keep_far ?_ GW418.out _) | exact HK.out)) (KeepBut.of_below hb g none) (.inl rfl)); replace HB := Aside0.mk (below_step (by repeat (first | (with_reducible first | exact HB.out | apply below_alloc | apply pw_below_drewN | apply below_drew1 | refine below_set ?_ (IsS127.ge HI0.out) | refine below_set ?_ GE403.out | refine below_set ?_ GE404.out | refine below_set ?_ GE411.out | refine below_set ?_ GE418.out) | exact HB.out)) hb); replace HI0 := Aside0.mk (IsS127.below (show IsS127 w0 _ g s0_0 t416 t417 from by repeat (first | (with_reducible first | exact HI0.out | apply IsS127.alloc | apply IsS127.drewN | apply IsS127.drew | apply IsS127.set_1 | apply IsS127.set_2 | refine IsS127.far ?_ NB0_403.out _ | refine IsS127.far ?_ NB0_404.out _ | refine IsS127.far ?_ NB0_411.out _ | refine IsS127.far ?_ NB0_418.out _) | exact HI0.out)) hb); (try clear hb); (try clear hb2); (try clear hk); (try clear hi)) | (go_at_call 101; (with_reducible refine (spec_l01Next.calls g s0_0 t416 t417 2 t421 t422 t423 w0 _ ?side1 ?side2 A25.out).mono ?_); (case side1 => repeat (first | (with_reducible first | exact HI0.out | apply IsS127.alloc | apply IsS127.drewN | apply IsS127.drew | apply IsS127.set_1 | apply IsS127.set_2 | refine IsS127.far ?_ NB0_403.out _ | refine IsS127.far ?_ NB0_404.out _ | refine IsS127.far ?_ NB0_411.out _ | refine IsS127.far ?_ NB0_418.out _) | exact HI0.out)); (case side2 => repeat (first | (with_reducible first | exact HB.out | apply below_alloc | apply pw_below_drewN | apply below_drew1 | refine below_set ?_ (IsS127.ge HI0.out) | refine below_set ?_ GE403.out | refine below_set ?_ GE404.out | refine below_set ?_ GE411.out | refine below_set ?_ GE418.out) | exact HB.out)); rintro e w32 ⟨rfl, hi, hb, hk⟩; replace BK403 := Aside0.mk (KeepBut.blk hk (g' := gb403) (o := .cells #[.int .i64 0, .int .i64 0, .int .i64 0] 27 (0, 0)) (be BK403) NB403_0.out (by simp)); replace BK404 := Aside0.mk (KeepBut.blk hk (g' := gb404) (o := .cells #[.int .i64 0, .int .i64 0, .int .i64 0] 27 (0, 0)) (be BK404) NB404_0.out (by simp)); replace BK411 := Aside0.mk (KeepBut.blk hk (g' := gb411) (o := .cells #[.int .i64 t406, .int .i64 t407, .int .i64 t408] 27 (0, 0)) (be BK411) NB411_0.out (by simp)); replace BK418 := Aside0.mk (KeepBut.blk hk (g' := gb418) (o := .cells #[.int .i64 t413, .int .i64 t414, .int .i64 t415] 27 (0, 0)) (be BK418) NB418_0.out (by simp)); replace HK := Aside0.mk (KeepBut.trans (by repeat (first | (with_reducible first | exact HK.out | apply KeepBut.set_ | apply keep_drewN | apply keep_drew | apply keep_alloc | refine keep_far ?_ GW403.out _ | refine keep_far ?_ GW404.out _ | refine keep_far ?_ GW411.out _ | refine keep_far ?_ GW418.out _) | exact HK.out)) hk (.inl rfl)); replace HI0 := Aside0.mk (hi); replace HB := Aside0.mk (hb); (try clear hb); (try clear hb2); (try clear hk); (try clear hi)))
    go_meet
    case rel => exact ⟨_, ((t421 == 0)), (t422), (t423), (by first | rfl | (simp; done) | (simp [*]; done)), H', ⟨by first | omega | exact Nat.le_refl _⟩, ⟨be BK403⟩, ⟨be BK404⟩, ⟨be BK411⟩, ⟨be BK418⟩, ⟨by repeat (first | (with_reducible first | exact HI0.out | apply IsS127.alloc | apply IsS127.drewN | apply IsS127.drew | apply IsS127.set_1 | apply IsS127.set_2 | refine IsS127.far ?_ NB0_403.out _ | refine IsS127.far ?_ NB0_404.out _ | refine IsS127.far ?_ NB0_411.out _ | refine IsS127.far ?_ NB0_418.out _) | exact HI0.out)⟩, ⟨by repeat (first | (with_reducible first | exact HK.out | apply KeepBut.set_ | apply keep_drewN | apply keep_drew | apply keep_alloc | refine keep_far ?_ GW403.out _ | refine keep_far ?_ GW404.out _ | refine keep_far ?_ GW411.out _ | refine keep_far ?_ GW418.out _) | exact HK.out)⟩, ⟨by repeat (first | (with_reducible first | exact HB.out | apply below_alloc | apply pw_below_drewN | apply below_drew1 | refine below_set ?_ (IsS127.ge HI0.out) | refine below_set ?_ GE403.out | refine below_set ?_ GE404.out | refine below_set ?_ GE411.out | refine below_set ?_ GE418.out) | exact HB.out)⟩⟩
   ·replace c24 := Bool.eq_false_iff.mpr c24
    subst c24
    have H1 : (spec_l02Two.j0 k t405 false s0_0 t416 t417 t406 t407 t408 t413 t414 t415) = some (r1, r2, r3, r4, r5, r6, r7, r8, r9) := by rw [if_neg (show ¬ (false = true) by decide)] at H; exact H
    clear H
    have H := H1
    clear H1
    have H' := Aside0.mk H
    clear H
    go_wp2_with (first | ((with_reducible refine gate_callee (f := 120) rfl ?_); refine g1 (some 21) Try.func120 #[.int .i64 t405] ?_; (with_reducible refine (spec_l01Prime.calls t405 true _ A21.out).mono ?_); rintro e w' ⟨rfl, ⟨nd, rfl⟩⟩; refine ⟨_, rfl, ?_⟩; have hnb33 := NB411_403.out; have hnc33 := NB403_411.out; have hnb34 := NB411_404.out; have hnc34 := NB404_411.out; have hnb35 := NB411_418.out; have hnc35 := NB418_411.out; have hnb36 := NB411_0.out; have hnc36 := NB0_411.out; obtain ⟨hcz37_0, hcz37_1, hcz37_2, hfz37_0, hfz37_1, hfz37_2⟩ := c3 BK411) | (go_at_call 134; (with_reducible refine (spec_l01Is.calls k t405 t406 t407 t408 false _ A23.out).mono ?_); rintro e w38 ⟨rfl, hb⟩; replace BK403 := Aside0.mk (blk_below (g := gb403) (o := .cells #[.int .i64 0, .int .i64 0, .int .i64 0] 27 (0, 0)) (by (with_reducible repeat (first | apply bn | apply bd | apply ba)); refine blk_far ?_ NB403_418.out _; (with_reducible repeat (first | apply bn | apply bd | apply ba)); refine blk_far ?_ NB403_418.out _; (with_reducible repeat (first | apply bn | apply bd | apply ba)); refine blk_far ?_ NB403_418.out _; (with_reducible repeat (first | apply bn | apply bd | apply ba)); exact BK403.out) hb); replace BK404 := Aside0.mk (blk_below (g := gb404) (o := .cells #[.int .i64 0, .int .i64 0, .int .i64 0] 27 (0, 0)) (by (with_reducible repeat (first | apply bn | apply bd | apply ba)); refine blk_far ?_ NB404_418.out _; (with_reducible repeat (first | apply bn | apply bd | apply ba)); refine blk_far ?_ NB404_418.out _; (with_reducible repeat (first | apply bn | apply bd | apply ba)); refine blk_far ?_ NB404_418.out _; (with_reducible repeat (first | apply bn | apply bd | apply ba)); exact BK404.out) hb); replace BK411 := Aside0.mk (blk_below (g := gb411) (o := .cells #[.int .i64 t406, .int .i64 t407, .int .i64 t408] 27 (0, 0)) (by (with_reducible repeat (first | apply bn | apply bd | apply ba)); refine blk_far ?_ NB411_418.out _; (with_reducible repeat (first | apply bn | apply bd | apply ba)); refine blk_far ?_ NB411_418.out _; (with_reducible repeat (first | apply bn | apply bd | apply ba)); refine blk_far ?_ NB411_418.out _; (with_reducible repeat (first | apply bn | apply bd | apply ba)); exact BK411.out) hb); replace BK418 := Aside0.mk (blk_below (g := gb418) (o := .cells #[.int .i64 t413, .int .i64 t414, .int .i64 t415] 27 (0, 0)) (by (with_reducible repeat (first | apply bn | apply bd | apply ba)); refine blk_put (cs := #[.int .i64 t413, .int .i64 t414, .int .i64 0]) ?_ 2 _ rfl; (with_reducible repeat (first | apply bn | apply bd | apply ba)); refine blk_put (cs := #[.int .i64 t413, .int .i64 0, .int .i64 0]) ?_ 1 _ rfl; (with_reducible repeat (first | apply bn | apply bd | apply ba)); refine blk_put (cs := #[.int .i64 0, .int .i64 0, .int .i64 0]) ?_ 0 _ rfl; (with_reducible repeat (first | apply bn | apply bd | apply ba)); exact BK418.out) hb); replace HK := Aside0.mk (KeepBut.trans (by repeat (first | (with_reducible first | exact HK.out | apply KeepBut.set_ | apply keep_drewN | apply keep_drew | apply keep_alloc | refine keep_far ?_ GW403.out _ | refine keep_far ?_ GW404.out _ | refine keep_far ?_ GW411.out _ | refine keep_far ?_ GW418.out _) | exact HK.out)) (KeepBut.of_below hb g none) (.inl rfl)); replace HB := Aside0.mk (below_step (by repeat (first | (with_reducible first | exact HB.out | apply below_alloc | apply pw_below_drewN | apply below_drew1 | refine below_set ?_ (IsS127.ge HI0.out) | refine below_set ?_ GE403.out | refine below_set ?_ GE404.out | refine below_set ?_ GE411.out | refine below_set ?_ GE418.out) | exact HB.out)) hb); replace HI0 := Aside0.mk (IsS127.below (show IsS127 w0 _ g s0_0 t416 t417 from by repeat (first | (with_reducible first | exact HI0.out | apply IsS127.alloc | apply IsS127.drewN | apply IsS127.drew | apply IsS127.set_1 | apply IsS127.set_2 | refine IsS127.far ?_ NB0_403.out _ | refine IsS127.far ?_ NB0_404.out _ | refine IsS127.far ?_ NB0_411.out _ | refine IsS127.far ?_ NB0_418.out _) | exact HI0.out)) hb); (try clear hb); (try clear hb2); (try clear hk); (try clear hi)))
    go_meet
    case rel => exact ⟨_, (false), (t416), (t417), (by first | rfl | (simp; done) | (simp [*]; done)), H', ⟨by first | omega | exact Nat.le_refl _⟩, ⟨be BK403⟩, ⟨be BK404⟩, ⟨be BK411⟩, ⟨be BK418⟩, ⟨by repeat (first | (with_reducible first | exact HI0.out | apply IsS127.alloc | apply IsS127.drewN | apply IsS127.drew | apply IsS127.set_1 | apply IsS127.set_2 | refine IsS127.far ?_ NB0_403.out _ | refine IsS127.far ?_ NB0_404.out _ | refine IsS127.far ?_ NB0_411.out _ | refine IsS127.far ?_ NB0_418.out _) | exact HI0.out)⟩, ⟨by repeat (first | (with_reducible first | exact HK.out | apply KeepBut.set_ | apply keep_drewN | apply keep_drew | apply keep_alloc | refine keep_far ?_ GW403.out _ | refine keep_far ?_ GW404.out _ | refine keep_far ?_ GW411.out _ | refine keep_far ?_ GW418.out _) | exact HK.out)⟩, ⟨by repeat (first | (with_reducible first | exact HB.out | apply below_alloc | apply pw_below_drewN | apply below_drew1 | refine below_set ?_ (IsS127.ge HI0.out) | refine below_set ?_ GE403.out | refine below_set ?_ GE404.out | refine below_set ?_ GE411.out | refine below_set ?_ GE418.out) | exact HB.out)⟩⟩
  ·replace c22 := Bool.eq_false_iff.mpr c22
   subst c22
   have H1 : (spec_l02Two.j0 k t405 false s0_0 t416 t417 t406 t407 t408 t413 t414 t415) = some (r1, r2, r3, r4, r5, r6, r7, r8, r9) := by rw [if_neg (show ¬ (false = true) by decide)] at H; exact H
   clear H
   have H := H1
   clear H1
   have H' := Aside0.mk H
   clear H
   go_wp2_with (first | ((with_reducible refine gate_callee (f := 120) rfl ?_); refine g1 (some 21) Try.func120 #[.int .i64 t405] ?_; (with_reducible refine (spec_l01Prime.calls t405 false _ A21.out).mono ?_); rintro e w' ⟨rfl, ⟨nd, rfl⟩⟩; refine ⟨_, rfl, ?_⟩))
   go_meet
   case rel => exact ⟨_, (false), (t416), (t417), (by first | rfl | (simp; done) | (simp [*]; done)), H', ⟨by first | omega | exact Nat.le_refl _⟩, ⟨by (with_reducible repeat (first | apply bn | apply bd | apply ba)); refine blk_far ?_ NB403_418.out _; (with_reducible repeat (first | apply bn | apply bd | apply ba)); refine blk_far ?_ NB403_418.out _; (with_reducible repeat (first | apply bn | apply bd | apply ba)); refine blk_far ?_ NB403_418.out _; (with_reducible repeat (first | apply bn | apply bd | apply ba)); exact BK403.out⟩, ⟨by (with_reducible repeat (first | apply bn | apply bd | apply ba)); refine blk_far ?_ NB404_418.out _; (with_reducible repeat (first | apply bn | apply bd | apply ba)); refine blk_far ?_ NB404_418.out _; (with_reducible repeat (first | apply bn | apply bd | apply ba)); refine blk_far ?_ NB404_418.out _; (with_reducible repeat (first | apply bn | apply bd | apply ba)); exact BK404.out⟩, ⟨by (with_reducible repeat (first | apply bn | apply bd | apply ba)); refine blk_far ?_ NB411_418.out _; (with_reducible repeat (first | apply bn | apply bd | apply ba)); refine blk_far ?_ NB411_418.out _; (with_reducible repeat (first | apply bn | apply bd | apply ba)); refine blk_far ?_ NB411_418.out _; (with_reducible repeat (first | apply bn | apply bd | apply ba)); exact BK411.out⟩, ⟨by (with_reducible repeat (first | apply bn | apply bd | apply ba)); refine blk_put (cs := #[.int .i64 t413, .int .i64 t414, .int .i64 0]) ?_ 2 _ rfl; (with_reducible repeat (first | apply bn | apply bd | apply ba)); refine blk_put (cs := #[.int .i64 t413, .int .i64 0, .int .i64 0]) ?_ 1 _ rfl; (with_reducible repeat (first | apply bn | apply bd | apply ba)); refine blk_put (cs := #[.int .i64 0, .int .i64 0, .int .i64 0]) ?_ 0 _ rfl; (with_reducible repeat (first | apply bn | apply bd | apply ba)); exact BK418.out⟩, ⟨by repeat (first | (with_reducible first | exact HI0.out | apply IsS127.alloc | apply IsS127.drewN | apply IsS127.drew | apply IsS127.set_1 | apply IsS127.set_2 | refine IsS127.far ?_ NB0_403.out _ | refine IsS127.far ?_ NB0_404.out _ | refine IsS127.far ?_ NB0_411.out _ | refine IsS127.far ?_ NB0_418.out _) | exact HI0.out)⟩, ⟨by repeat (first | (with_reducible first | exact HK.out | apply KeepBut.set_ | apply keep_drewN | apply keep_drew | apply keep_alloc | refine keep_far ?_ GW403.out _ | refine keep_far ?_ GW404.out _ | refine keep_far ?_ GW411.out _ | refine keep_far ?_ GW418.out _) | exact HK.out)⟩, ⟨by repeat (first | (with_reducible first | exact HB.out | apply below_alloc | apply pw_below_drewN | apply below_drew1 | refine below_set ?_ (IsS127.ge HI0.out) | refine below_set ?_ GE403.out | refine below_set ?_ GE404.out | refine below_set ?_ GE411.out | refine below_set ?_ GE418.out) | exact HB.out)⟩⟩
 case rest =>
  clear HC5
  try clear c1
  try clear c2
  try clear p2
  try clear c3
  try clear c9
  try clear c10
  try clear c11
  try clear c12
  try clear c16
  try clear c17
  try clear c18
  try clear c19
  try clear c22
  try clear c24
  try clear c26
  try clear c27
  try clear c28
  try clear c29
  try clear c33
  try clear c34
  try clear c35
  try clear c36
  try clear hcz13_0 hcz13_1 hcz13_2
  try clear hcz20_0 hcz20_1 hcz20_2
  try clear hcz30_0 hcz30_1 hcz30_2
  try clear hcz37_0 hcz37_1 hcz37_2
  try clear hfz13_0 hfz13_1 hfz13_2
  try clear hfz20_0 hfz20_1 hfz20_2
  try clear hfz30_0 hfz30_1 hfz30_2
  try clear hfz37_0 hfz37_1 hfz37_2
  obtain ⟨kq, x31_4, x1001_4, x1002_4, rfl, HA, HJ4, BK403, BK404, BK411, BK418, HI0, HK, HB⟩ := hcut
  cases kq with
  | zero => exact absurd HA.out (by simp [spec_l02Two.j0])
  | succ kj4 =>
   have H := HA.out
   clear HA
   simp only [spec_l02Two.j0] at H
   by_cases c39 : x31_4 = true
   ·subst c39
    have H1 : ((spec_l01Next.f s0_0 x1001_4 x1002_4 5).bind fun bt424 => (spec_l02Two.l0 kj4 t405 bt424.1 s0_0 bt424.2.1 bt424.2.2 t406 t407 t408 t406 t407 t408)) = some (r1, r2, r3, r4, r5, r6, r7, r8, r9) := by rw [if_pos rfl] at H; exact H
    clear H
    have H := H1
    clear H1
    replace H := Option.bind_eq_some_iff.mp H
    obtain ⟨⟨t424, t425, t426⟩, A400, H⟩ := H
    replace H : (spec_l02Two.l0 kj4 t405 t424 s0_0 t425 t426 t406 t407 t408 t406 t407 t408) = some (r1, r2, r3, r4, r5, r6, r7, r8, r9) := H
    have A40 := Aside0.mk A400
    clear A400
    have H' := Aside0.mk H
    clear H
    have hnb41 := NB411_403.out
    have hnc41 := NB403_411.out
    have hnb42 := NB411_404.out
    have hnc42 := NB404_411.out
    have hnb43 := NB411_418.out
    have hnc43 := NB418_411.out
    have hnb44 := NB411_0.out
    have hnc44 := NB0_411.out
    have hcz45_0 : wc.cell? ⟨gb411, 0, none⟩ = some (.int .i64 t406) := (blk_cell BK411.out 0).trans rfl
    have hcz45_1 : wc.cell? ⟨gb411, 1, none⟩ = some (.int .i64 t407) := (blk_cell BK411.out 1).trans rfl
    have hcz45_2 : wc.cell? ⟨gb411, 2, none⟩ = some (.int .i64 t408) := (blk_cell BK411.out 2).trans rfl
    have hfz45_0 := blk_frozen BK411.out 0
    have hfz45_1 := blk_frozen BK411.out 1
    have hfz45_2 := blk_frozen BK411.out 2
    have hnb46 := NB418_403.out
    have hnc46 := NB403_418.out
    have hnb47 := NB418_404.out
    have hnc47 := NB404_418.out
    have hnb48 := NB418_0.out
    have hnc48 := NB0_418.out
    have hcz49_0 : wc.cell? ⟨gb418, 0, none⟩ = some (.int .i64 t413) := (blk_cell BK418.out 0).trans rfl
    have hcz49_1 : wc.cell? ⟨gb418, 1, none⟩ = some (.int .i64 t414) := (blk_cell BK418.out 1).trans rfl
    have hcz49_2 : wc.cell? ⟨gb418, 2, none⟩ = some (.int .i64 t415) := (blk_cell BK418.out 2).trans rfl
    have hfz49_0 := blk_frozen BK418.out 0
    have hfz49_1 := blk_frozen BK418.out 1
    have hfz49_2 := blk_frozen BK418.out 2
    go_wp2_with (first | ((with_reducible refine gate_callee (f := 101) rfl ?_); refine g1 (some 34) Try.func101 #[.pointer (some ⟨g, 0, none⟩), .int .i64 5] ?_; (with_reducible refine (spec_l01Next.calls g s0_0 x1001_4 x1002_4 5 t424 t425 t426 w0 _ ?side1 ?side2 A40.out).mono ?_); (case side1 => repeat (first | (with_reducible first | exact HI0.out | apply IsS127.alloc | apply IsS127.drewN | apply IsS127.drew | apply IsS127.set_1 | apply IsS127.set_2 | refine IsS127.far ?_ NB0_403.out _ | refine IsS127.far ?_ NB0_404.out _ | refine IsS127.far ?_ NB0_411.out _ | refine IsS127.far ?_ NB0_418.out _) | exact HI0.out)); (case side2 => repeat (first | (with_reducible first | exact HB.out | apply below_alloc | apply pw_below_drewN | apply below_drew1 | refine below_set ?_ (IsS127.ge HI0.out) | refine below_set ?_ GE403.out | refine below_set ?_ GE404.out | refine below_set ?_ GE411.out | refine below_set ?_ GE418.out) | exact HB.out)); rintro e w50 ⟨rfl, hi, hb, hk⟩; refine ⟨_, rfl, ?_⟩; replace BK403 := Aside0.mk (KeepBut.blk hk (g' := gb403) (o := .cells #[.int .i64 0, .int .i64 0, .int .i64 0] 27 (0, 0)) (by (with_reducible repeat (first | apply bn | apply bd | apply ba)); refine blk_far ?_ NB403_418.out _; (with_reducible repeat (first | apply bn | apply bd | apply ba)); refine blk_far ?_ NB403_418.out _; (with_reducible repeat (first | apply bn | apply bd | apply ba)); refine blk_far ?_ NB403_418.out _; (with_reducible repeat (first | apply bn | apply bd | apply ba)); exact BK403.out) NB403_0.out (by simp)); replace BK404 := Aside0.mk (KeepBut.blk hk (g' := gb404) (o := .cells #[.int .i64 0, .int .i64 0, .int .i64 0] 27 (0, 0)) (by (with_reducible repeat (first | apply bn | apply bd | apply ba)); refine blk_far ?_ NB404_418.out _; (with_reducible repeat (first | apply bn | apply bd | apply ba)); refine blk_far ?_ NB404_418.out _; (with_reducible repeat (first | apply bn | apply bd | apply ba)); refine blk_far ?_ NB404_418.out _; (with_reducible repeat (first | apply bn | apply bd | apply ba)); exact BK404.out) NB404_0.out (by simp)); replace BK411 := Aside0.mk (KeepBut.blk hk (g' := gb411) (o := .cells #[.int .i64 t406, .int .i64 t407, .int .i64 t408] 27 (0, 0)) (by (with_reducible repeat (first | apply bn | apply bd | apply ba)); refine blk_far ?_ NB411_418.out _; (with_reducible repeat (first | apply bn | apply bd | apply ba)); refine blk_far ?_ NB411_418.out _; (with_reducible repeat (first | apply bn | apply bd | apply ba)); refine blk_far ?_ NB411_418.out _; (with_reducible repeat (first | apply bn | apply bd | apply ba)); exact BK411.out) NB411_0.out (by simp)); replace BK418 := Aside0.mk (KeepBut.blk hk (g' := gb418) (o := .cells #[.int .i64 t406, .int .i64 t407, .int .i64 t408] 27 (0, 0)) (by (with_reducible repeat (first | apply bn | apply bd | apply ba)); refine blk_put (cs := #[.int .i64 t406, .int .i64 t407, .int .i64 t415]) ?_ 2 _ rfl; (with_reducible repeat (first | apply bn | apply bd | apply ba)); refine blk_put (cs := #[.int .i64 t406, .int .i64 t414, .int .i64 t415]) ?_ 1 _ rfl; (with_reducible repeat (first | apply bn | apply bd | apply ba)); refine blk_put (cs := #[.int .i64 t413, .int .i64 t414, .int .i64 t415]) ?_ 0 _ rfl; (with_reducible repeat (first | apply bn | apply bd | apply ba)); exact BK418.out) NB418_0.out (by simp)); replace HK := Aside0.mk (KeepBut.trans (by repeat (first | (with_reducible first | exact HK.out | apply KeepBut.set_ | apply keep_drewN | apply keep_drew | apply keep_alloc | refine keep_far ?_ GW403.out _ | refine keep_far ?_ GW404.out _ | refine keep_far ?_ GW411.out _ | refine keep_far ?_ GW418.out _) | exact HK.out)) hk (.inl rfl)); replace HI0 := Aside0.mk (hi); replace HB := Aside0.mk (hb); (try clear hb); (try clear hb2); (try clear hk); (try clear hi)))
    go_loopg [8] kj4 (fun kq v8 w' => ∃ (x8_2 : Int) (x1001_2 : Int) (x1002_2 : Int) (x419000_2 : Int) (x419001_2 : Int) (x419002_2 : Int), v8 = .int .i64 x8_2 ∧ Aside0 (spec_l02Two.l0 kq t405 x8_2 s0_0 x1001_2 x1002_2 t406 t407 t408 x419000_2 x419001_2 x419002_2 = some (r1, r2, r3, r4, r5, r6, r7, r8, r9)) ∧ Aside0 (kq ≤ kj4) ∧ Aside0 (w'.heap[gb403]? = some (.cells #[.int .i64 0, .int .i64 0, .int .i64 0] 27 (0, 0))) ∧ Aside0 (w'.heap[gb404]? = some (.cells #[.int .i64 0, .int .i64 0, .int .i64 0] 27 (0, 0))) ∧ Aside0 (w'.heap[gb411]? = some (.cells #[.int .i64 t406, .int .i64 t407, .int .i64 t408] 27 (0, 0))) ∧ Aside0 (w'.heap[gb418]? = some (.cells #[.int .i64 x419000_2, .int .i64 x419001_2, .int .i64 x419002_2] 27 (0, 0))) ∧ Aside0 (IsS127 w0 w' g s0_0 x1001_2 x1002_2) ∧ Aside0 (KeepBut w w' g none) ∧ Aside0 (Below w0.heap.size w0 w'))
    case atStart => exact ⟨(t424), (t425), (t426), (t406), (t407), (t408), (by first | rfl | (simp; done) | (simp [*]; done)), H', ⟨Nat.le_refl _⟩, ⟨be BK403⟩, ⟨be BK404⟩, ⟨be BK411⟩, ⟨be BK418⟩, ⟨by repeat (first | (with_reducible first | exact HI0.out | apply IsS127.alloc | apply IsS127.drewN | apply IsS127.drew | apply IsS127.set_1 | apply IsS127.set_2 | refine IsS127.far ?_ NB0_403.out _ | refine IsS127.far ?_ NB0_404.out _ | refine IsS127.far ?_ NB0_411.out _ | refine IsS127.far ?_ NB0_418.out _) | exact HI0.out)⟩, ⟨by repeat (first | (with_reducible first | exact HK.out | apply KeepBut.set_ | apply keep_drewN | apply keep_drew | apply keep_alloc | refine keep_far ?_ GW403.out _ | refine keep_far ?_ GW404.out _ | refine keep_far ?_ GW411.out _ | refine keep_far ?_ GW418.out _) | exact HK.out)⟩, ⟨by repeat (first | (with_reducible first | exact HB.out | apply below_alloc | apply pw_below_drewN | apply below_drew1 | refine below_set ?_ (IsS127.ge HI0.out) | refine below_set ?_ GE403.out | refine below_set ?_ GE404.out | refine below_set ?_ GE411.out | refine below_set ?_ GE418.out) | exact HB.out)⟩⟩
    case round =>
     clear H'
     try clear c1
     try clear c2
     try clear p2
     try clear c3
     try clear c4
     try clear c9
     try clear c10
     try clear c11
     try clear c12
     try clear c16
     try clear c17
     try clear c18
     try clear c19
     try clear c22
     try clear c24
     try clear c26
     try clear c27
     try clear c28
     try clear c29
     try clear c33
     try clear c34
     try clear c35
     try clear c36
     try clear c39
     try clear c41
     try clear c42
     try clear c43
     try clear c44
     try clear c46
     try clear c47
     try clear c48
     try clear hcz13_0 hcz13_1 hcz13_2
     try clear hcz20_0 hcz20_1 hcz20_2
     try clear hcz30_0 hcz30_1 hcz30_2
     try clear hcz37_0 hcz37_1 hcz37_2
     try clear hcz45_0 hcz45_1 hcz45_2
     try clear hcz49_0 hcz49_1 hcz49_2
     try clear hfz13_0 hfz13_1 hfz13_2
     try clear hfz20_0 hfz20_1 hfz20_2
     try clear hfz30_0 hfz30_1 hfz30_2
     try clear hfz37_0 hfz37_1 hfz37_2
     try clear hfz45_0 hfz45_1 hfz45_2
     try clear hfz49_0 hfz49_1 hfz49_2
     try clear p2
     obtain ⟨x8_2, x1001_2, x1002_2, x419000_2, x419001_2, x419002_2, rfl, HA, HK2, BK403, BK404, BK411, BK418, HI0, HK, HB⟩ := hrel
     cases gk with
     | zero => exact absurd HA.out (by simp [spec_l02Two.l0])
     | succ k2 =>
      have H := HA.out
      clear HA
      simp only [spec_l02Two.l0] at H
      by_cases c51 : x8_2 > 0
      ·rw [if_pos c51] at H
       have c51b0 : decide (0 < x8_2) = true := decide_eq_true c51
       clear c51
       replace H := Option.bind_eq_some_iff.mp H
       obtain ⟨⟨t432, t435⟩, A520, H⟩ := H
       replace H : (if t435 = true then ((spec_l01Next.f s0_0 x1001_2 x1002_2 (wrap64 (t405 + 1))).bind fun bt436 => (if 0 ≤ bt436.1 then (if bt436.1 < (t432.length : Int) then (spec_l02Two.l0 k2 t405 (wrap64 (x8_2 - 1)) s0_0 bt436.2.1 bt436.2.2 t406 t407 t408 ((rd_T27 t432 bt436.1).f0) ((rd_T27 t432 bt436.1).f1) ((rd_T27 t432 bt436.1).f2)) else (none)) else (none))) else (spec_l02Two.l0 k2 t405 (wrap64 (x8_2 - 1)) s0_0 x1001_2 x1002_2 t406 t407 t408 x419000_2 x419001_2 x419002_2)) = some (r1, r2, r3, r4, r5, r6, r7, r8, r9) := H
       have A52 := Aside0.mk A520
       clear A520
       by_cases c53 : t435 = true
       ·subst c53
        have H1 : ((spec_l01Next.f s0_0 x1001_2 x1002_2 (wrap64 (t405 + 1))).bind fun bt436 => (if 0 ≤ bt436.1 then (if bt436.1 < (t432.length : Int) then (spec_l02Two.l0 k2 t405 (wrap64 (x8_2 - 1)) s0_0 bt436.2.1 bt436.2.2 t406 t407 t408 ((rd_T27 t432 bt436.1).f0) ((rd_T27 t432 bt436.1).f1) ((rd_T27 t432 bt436.1).f2)) else (none)) else (none))) = some (r1, r2, r3, r4, r5, r6, r7, r8, r9) := by rw [if_pos rfl] at H; exact H
        clear H
        have H := H1
        clear H1
        replace H := Option.bind_eq_some_iff.mp H
        obtain ⟨⟨t436, t437, t438⟩, A540, H⟩ := H
        replace H : (if 0 ≤ t436 then (if t436 < (t432.length : Int) then (spec_l02Two.l0 k2 t405 (wrap64 (x8_2 - 1)) s0_0 t437 t438 t406 t407 t408 ((rd_T27 t432 t436).f0) ((rd_T27 t432 t436).f1) ((rd_T27 t432 t436).f2)) else (none)) else (none)) = some (r1, r2, r3, r4, r5, r6, r7, r8, r9) := H
        have A54 := Aside0.mk A540
        clear A540
        by_cases c55 : 0 ≤ t436
        ·rw [if_pos c55] at H
         have c55b0 : decide (0 ≤ t436) = true := decide_eq_true c55
         clear c55
         by_cases c56 : t436 < (t432.length : Int)
         ·rw [if_pos c56] at H
          have c56b0 : decide (t436 < (t432.length : Int)) = true := decide_eq_true c56
          clear c56
          have H' := Aside0.mk H
          clear H
          have hnb57 := NB418_403.out
          have hnc57 := NB403_418.out
          have hnb58 := NB418_404.out
          have hnc58 := NB404_418.out
          have hnb59 := NB418_411.out
          have hnc59 := NB411_418.out
          have hnb60 := NB418_0.out
          have hnc60 := NB0_418.out
          have hcz61_0 : wr.cell? ⟨gb418, 0, none⟩ = some (.int .i64 x419000_2) := (blk_cell BK418.out 0).trans rfl
          have hcz61_1 : wr.cell? ⟨gb418, 1, none⟩ = some (.int .i64 x419001_2) := (blk_cell BK418.out 1).trans rfl
          have hcz61_2 : wr.cell? ⟨gb418, 2, none⟩ = some (.int .i64 x419002_2) := (blk_cell BK418.out 2).trans rfl
          have hfz61_0 := blk_frozen BK418.out 0
          have hfz61_1 := blk_frozen BK418.out 1
          have hfz61_2 := blk_frozen BK418.out 2
          go_wp2_with (first | ((with_reducible refine gate_callee (f := 86) rfl ?_); refine g1 (some 42) Try.func86 #[.int .i64 t405, .agg #[.int .i64 x419000_2, .int .i64 x419001_2, .int .i64 x419002_2]] ?_; (with_reducible refine (spec_l02Near.calls k2 t405 x419000_2 x419001_2 x419002_2 t432 true _ A52.out).mono ?_); rintro e w62 ⟨v433, rfl, ho0, hb⟩; refine ⟨_, rfl, ?_⟩; have HO434 := Aside0.mk (Kd.R_lower (Kd.R_newB (Kd.R_newB (Kd.R_newB (Kd.R_newB ho0 (g := gb403) (o := .cells #[.int .i64 0, .int .i64 0, .int .i64 0] 27 (0, 0)) (be BK403)) (g := gb404) (o := .cells #[.int .i64 0, .int .i64 0, .int .i64 0] 27 (0, 0)) (be BK404)) (g := gb411) (o := .cells #[.int .i64 t406, .int .i64 t407, .int .i64 t408] 27 (0, 0)) (be BK411)) (g := gb418) (o := .cells #[.int .i64 x419000_2, .int .i64 x419001_2, .int .i64 x419002_2] 27 (0, 0)) (be BK418)) (keep_size (w := w) (g := g) (row := none) (by repeat (first | (with_reducible first | exact HK.out | apply KeepBut.set_ | apply keep_drewN | apply keep_drew | apply keep_alloc | refine keep_far ?_ GW403.out _ | refine keep_far ?_ GW404.out _ | refine keep_far ?_ GW411.out _ | refine keep_far ?_ GW418.out _) | exact HK.out)))); replace BK403 := bb BK403 hb; replace BK404 := bb BK404 hb; replace BK411 := bb BK411 hb; replace BK418 := bb BK418 hb; replace HK := Aside0.mk (KeepBut.trans (by repeat (first | (with_reducible first | exact HK.out | apply KeepBut.set_ | apply keep_drewN | apply keep_drew | apply keep_alloc | refine keep_far ?_ GW403.out _ | refine keep_far ?_ GW404.out _ | refine keep_far ?_ GW411.out _ | refine keep_far ?_ GW418.out _) | exact HK.out)) (KeepBut.of_below hb g none) (.inl rfl)); replace HB := Aside0.mk (below_step (by repeat (first | (with_reducible first | exact HB.out | apply below_alloc | apply pw_below_drewN | apply below_drew1 | refine below_set ?_ (IsS127.ge HI0.out) | refine below_set ?_ GE403.out | refine below_set ?_ GE404.out | refine below_set ?_ GE411.out | refine below_set ?_ GE418.out) | exact HB.out)) hb); replace HI0 := Aside0.mk (IsS127.below (by repeat (first | (with_reducible first | exact HI0.out | apply IsS127.alloc | apply IsS127.drewN | apply IsS127.drew | apply IsS127.set_1 | apply IsS127.set_2 | refine IsS127.far ?_ NB0_403.out _ | refine IsS127.far ?_ NB0_404.out _ | refine IsS127.far ?_ NB0_411.out _ | refine IsS127.far ?_ NB0_418.out _) | exact HI0.out)) hb); (try clear hb); (try clear hb2); (try clear hk); (try clear hi); (try clear ho0)) | ((with_reducible refine gate_callee (f := 101) rfl ?_); refine g1 (some 50) Try.func101 #[.pointer (some ⟨g, 0, none⟩), .int .i64 (wrap64 (t405 + 1))] ?_; (with_reducible refine (spec_l01Next.calls g s0_0 x1001_2 x1002_2 (wrap64 (t405 + 1)) t436 t437 t438 w0 _ ?side1 ?side2 A54.out).mono ?_); (case side1 => repeat (first | (with_reducible first | exact HI0.out | apply IsS127.alloc | apply IsS127.drewN | apply IsS127.drew | apply IsS127.set_1 | apply IsS127.set_2 | refine IsS127.far ?_ NB0_403.out _ | refine IsS127.far ?_ NB0_404.out _ | refine IsS127.far ?_ NB0_411.out _ | refine IsS127.far ?_ NB0_418.out _) | exact HI0.out)); (case side2 => repeat (first | (with_reducible first | exact HB.out | apply below_alloc | apply pw_below_drewN | apply below_drew1 | refine below_set ?_ (IsS127.ge HI0.out) | refine below_set ?_ GE403.out | refine below_set ?_ GE404.out | refine below_set ?_ GE411.out | refine below_set ?_ GE418.out) | exact HB.out)); rintro e w63 ⟨rfl, hi, hb, hk⟩; refine ⟨_, rfl, ?_⟩; replace BK403 := Aside0.mk (KeepBut.blk hk (g' := gb403) (o := .cells #[.int .i64 0, .int .i64 0, .int .i64 0] 27 (0, 0)) (be BK403) NB403_0.out (by simp)); replace BK404 := Aside0.mk (KeepBut.blk hk (g' := gb404) (o := .cells #[.int .i64 0, .int .i64 0, .int .i64 0] 27 (0, 0)) (be BK404) NB404_0.out (by simp)); replace BK411 := Aside0.mk (KeepBut.blk hk (g' := gb411) (o := .cells #[.int .i64 t406, .int .i64 t407, .int .i64 t408] 27 (0, 0)) (be BK411) NB411_0.out (by simp)); replace BK418 := Aside0.mk (KeepBut.blk hk (g' := gb418) (o := .cells #[.int .i64 x419000_2, .int .i64 x419001_2, .int .i64 x419002_2] 27 (0, 0)) (be BK418) NB418_0.out (by simp)); replace HO434 := Aside0.mk (Kd.R_mono (Kd.R_keep (IsS127.apart (show IsS127 w0 _ g s0_0 x1001_2 x1002_2 from by repeat (first | (with_reducible first | exact HI0.out | apply IsS127.alloc | apply IsS127.drewN | apply IsS127.drew | apply IsS127.set_1 | apply IsS127.set_2 | refine IsS127.far ?_ NB0_403.out _ | refine IsS127.far ?_ NB0_404.out _ | refine IsS127.far ?_ NB0_411.out _ | refine IsS127.far ?_ NB0_418.out _) | exact HI0.out)) (by (with_reducible repeat (first | apply Kd.R_alloc | apply Kd.R_drewN | apply Kd.R_drew)); exact HO434.out) (by decide)) hk (fun _ h => h.2)) (fun _ h => h.1)); replace HK := Aside0.mk (KeepBut.trans (by repeat (first | (with_reducible first | exact HK.out | apply KeepBut.set_ | apply keep_drewN | apply keep_drew | apply keep_alloc | refine keep_far ?_ GW403.out _ | refine keep_far ?_ GW404.out _ | refine keep_far ?_ GW411.out _ | refine keep_far ?_ GW418.out _) | exact HK.out)) hk (.inl rfl)); replace HI0 := Aside0.mk (hi); replace HB := Aside0.mk (hb); (try clear hb); (try clear hb2); (try clear hk); (try clear hi); obtain ⟨Ao64, co64, eo64⟩ := Kd.R_slice HO434.out; subst eo64; have p439 : 0 ≤ (t436 : Int) := of_decide_eq_true (by first | (with_reducible assumption) | assumption); have q439 : t436 < (t432.length : Int) := of_decide_eq_true (by first | (with_reducible assumption) | assumption); obtain ⟨ad439, e439, hx439_0, hx439_1, hx439_2⟩ := at_T27 (Kd.R_reads' HO434.out).2.2 t436 p439 q439; cases e439; replace p439 := eq_true p439; replace q439 := eq_true q439; obtain ⟨hcz65_0, hcz65_1, hcz65_2, hfz65_0, hfz65_1, hfz65_2⟩ := c3 BK418))
          go_roundg k2
          case measure => have := HJ4.out; have := HK2.out; omega
          case rel => exact ⟨(wrap64 (x8_2 - 1)), (t437), (t438), ((rd_T27 t432 t436).f0), ((rd_T27 t432 t436).f1), ((rd_T27 t432 t436).f2), (by first | rfl | (simp; done) | (simp [*]; done)), H', ⟨by have := HJ4.out; have := HK2.out; omega⟩, ⟨by (with_reducible repeat (first | apply bn | apply bd | apply ba)); refine blk_far ?_ NB403_418.out _; (with_reducible repeat (first | apply bn | apply bd | apply ba)); refine blk_far ?_ NB403_418.out _; (with_reducible repeat (first | apply bn | apply bd | apply ba)); refine blk_far ?_ NB403_418.out _; (with_reducible repeat (first | apply bn | apply bd | apply ba)); exact BK403.out⟩, ⟨by (with_reducible repeat (first | apply bn | apply bd | apply ba)); refine blk_far ?_ NB404_418.out _; (with_reducible repeat (first | apply bn | apply bd | apply ba)); refine blk_far ?_ NB404_418.out _; (with_reducible repeat (first | apply bn | apply bd | apply ba)); refine blk_far ?_ NB404_418.out _; (with_reducible repeat (first | apply bn | apply bd | apply ba)); exact BK404.out⟩, ⟨by (with_reducible repeat (first | apply bn | apply bd | apply ba)); refine blk_far ?_ NB411_418.out _; (with_reducible repeat (first | apply bn | apply bd | apply ba)); refine blk_far ?_ NB411_418.out _; (with_reducible repeat (first | apply bn | apply bd | apply ba)); refine blk_far ?_ NB411_418.out _; (with_reducible repeat (first | apply bn | apply bd | apply ba)); exact BK411.out⟩, ⟨by (with_reducible repeat (first | apply bn | apply bd | apply ba)); refine blk_put (cs := #[.int .i64 ((rd_T27 t432 t436).f0), .int .i64 ((rd_T27 t432 t436).f1), .int .i64 x419002_2]) ?_ 2 _ rfl; (with_reducible repeat (first | apply bn | apply bd | apply ba)); refine blk_put (cs := #[.int .i64 ((rd_T27 t432 t436).f0), .int .i64 x419001_2, .int .i64 x419002_2]) ?_ 1 _ rfl; (with_reducible repeat (first | apply bn | apply bd | apply ba)); refine blk_put (cs := #[.int .i64 x419000_2, .int .i64 x419001_2, .int .i64 x419002_2]) ?_ 0 _ rfl; (with_reducible repeat (first | apply bn | apply bd | apply ba)); exact BK418.out⟩, ⟨by repeat (first | (with_reducible first | exact HI0.out | apply IsS127.alloc | apply IsS127.drewN | apply IsS127.drew | apply IsS127.set_1 | apply IsS127.set_2 | refine IsS127.far ?_ NB0_403.out _ | refine IsS127.far ?_ NB0_404.out _ | refine IsS127.far ?_ NB0_411.out _ | refine IsS127.far ?_ NB0_418.out _) | exact HI0.out)⟩, ⟨by repeat (first | (with_reducible first | exact HK.out | apply KeepBut.set_ | apply keep_drewN | apply keep_drew | apply keep_alloc | refine keep_far ?_ GW403.out _ | refine keep_far ?_ GW404.out _ | refine keep_far ?_ GW411.out _ | refine keep_far ?_ GW418.out _) | exact HK.out)⟩, ⟨by repeat (first | (with_reducible first | exact HB.out | apply below_alloc | apply pw_below_drewN | apply below_drew1 | refine below_set ?_ (IsS127.ge HI0.out) | refine below_set ?_ GE403.out | refine below_set ?_ GE404.out | refine below_set ?_ GE411.out | refine below_set ?_ GE418.out) | exact HB.out)⟩⟩
         ·rw [if_neg c56] at H
          exact absurd H (by simp)
        ·rw [if_neg c55] at H
         exact absurd H (by simp)
       ·replace c53 := Bool.eq_false_iff.mpr c53
        subst c53
        have H1 : (spec_l02Two.l0 k2 t405 (wrap64 (x8_2 - 1)) s0_0 x1001_2 x1002_2 t406 t407 t408 x419000_2 x419001_2 x419002_2) = some (r1, r2, r3, r4, r5, r6, r7, r8, r9) := by rw [if_neg (show ¬ (false = true) by decide)] at H; exact H
        clear H
        have H := H1
        clear H1
        have H' := Aside0.mk H
        clear H
        have hnb66 := NB418_403.out
        have hnc66 := NB403_418.out
        have hnb67 := NB418_404.out
        have hnc67 := NB404_418.out
        have hnb68 := NB418_411.out
        have hnc68 := NB411_418.out
        have hnb69 := NB418_0.out
        have hnc69 := NB0_418.out
        have hcz70_0 : wr.cell? ⟨gb418, 0, none⟩ = some (.int .i64 x419000_2) := (blk_cell BK418.out 0).trans rfl
        have hcz70_1 : wr.cell? ⟨gb418, 1, none⟩ = some (.int .i64 x419001_2) := (blk_cell BK418.out 1).trans rfl
        have hcz70_2 : wr.cell? ⟨gb418, 2, none⟩ = some (.int .i64 x419002_2) := (blk_cell BK418.out 2).trans rfl
        have hfz70_0 := blk_frozen BK418.out 0
        have hfz70_1 := blk_frozen BK418.out 1
        have hfz70_2 := blk_frozen BK418.out 2
        go_wp2_with (first | ((with_reducible refine gate_callee (f := 86) rfl ?_); refine g1 (some 42) Try.func86 #[.int .i64 t405, .agg #[.int .i64 x419000_2, .int .i64 x419001_2, .int .i64 x419002_2]] ?_; (with_reducible refine (spec_l02Near.calls k2 t405 x419000_2 x419001_2 x419002_2 t432 false _ A52.out).mono ?_); rintro e w71 ⟨v433, rfl, ho0, hb⟩; refine ⟨_, rfl, ?_⟩; have HO434 := Aside0.mk (Kd.R_lower (Kd.R_newB (Kd.R_newB (Kd.R_newB (Kd.R_newB ho0 (g := gb403) (o := .cells #[.int .i64 0, .int .i64 0, .int .i64 0] 27 (0, 0)) (be BK403)) (g := gb404) (o := .cells #[.int .i64 0, .int .i64 0, .int .i64 0] 27 (0, 0)) (be BK404)) (g := gb411) (o := .cells #[.int .i64 t406, .int .i64 t407, .int .i64 t408] 27 (0, 0)) (be BK411)) (g := gb418) (o := .cells #[.int .i64 x419000_2, .int .i64 x419001_2, .int .i64 x419002_2] 27 (0, 0)) (be BK418)) (keep_size (w := w) (g := g) (row := none) (by repeat (first | (with_reducible first | exact HK.out | apply KeepBut.set_ | apply keep_drewN | apply keep_drew | apply keep_alloc | refine keep_far ?_ GW403.out _ | refine keep_far ?_ GW404.out _ | refine keep_far ?_ GW411.out _ | refine keep_far ?_ GW418.out _) | exact HK.out)))); replace BK403 := bb BK403 hb; replace BK404 := bb BK404 hb; replace BK411 := bb BK411 hb; replace BK418 := bb BK418 hb; replace HK := Aside0.mk (KeepBut.trans (by repeat (first | (with_reducible first | exact HK.out | apply KeepBut.set_ | apply keep_drewN | apply keep_drew | apply keep_alloc | refine keep_far ?_ GW403.out _ | refine keep_far ?_ GW404.out _ | refine keep_far ?_ GW411.out _ | refine keep_far ?_ GW418.out _) | exact HK.out)) (KeepBut.of_below hb g none) (.inl rfl)); replace HB := Aside0.mk (below_step (by repeat (first | (with_reducible first | exact HB.out | apply below_alloc | apply pw_below_drewN | apply below_drew1 | refine below_set ?_ (IsS127.ge HI0.out) | refine below_set ?_ GE403.out | refine below_set ?_ GE404.out | refine below_set ?_ GE411.out | refine below_set ?_ GE418.out) | exact HB.out)) hb); replace HI0 := Aside0.mk (IsS127.below (by repeat (first | (with_reducible first | exact HI0.out | apply IsS127.alloc | apply IsS127.drewN | apply IsS127.drew | apply IsS127.set_1 | apply IsS127.set_2 | refine IsS127.far ?_ NB0_403.out _ | refine IsS127.far ?_ NB0_404.out _ | refine IsS127.far ?_ NB0_411.out _ | refine IsS127.far ?_ NB0_418.out _) | exact HI0.out)) hb); (try clear hb); (try clear hb2); (try clear hk); (try clear hi); (try clear ho0)))
        go_roundg k2
        case measure => have := HJ4.out; have := HK2.out; omega
        case rel => exact ⟨(wrap64 (x8_2 - 1)), (x1001_2), (x1002_2), (x419000_2), (x419001_2), (x419002_2), (by first | rfl | (simp; done) | (simp [*]; done)), H', ⟨by have := HJ4.out; have := HK2.out; omega⟩, ⟨be BK403⟩, ⟨be BK404⟩, ⟨be BK411⟩, ⟨be BK418⟩, ⟨by repeat (first | (with_reducible first | exact HI0.out | apply IsS127.alloc | apply IsS127.drewN | apply IsS127.drew | apply IsS127.set_1 | apply IsS127.set_2 | refine IsS127.far ?_ NB0_403.out _ | refine IsS127.far ?_ NB0_404.out _ | refine IsS127.far ?_ NB0_411.out _ | refine IsS127.far ?_ NB0_418.out _) | exact HI0.out)⟩, ⟨by repeat (first | (with_reducible first | exact HK.out | apply KeepBut.set_ | apply keep_drewN | apply keep_drew | apply keep_alloc | refine keep_far ?_ GW403.out _ | refine keep_far ?_ GW404.out _ | refine keep_far ?_ GW411.out _ | refine keep_far ?_ GW418.out _) | exact HK.out)⟩, ⟨by repeat (first | (with_reducible first | exact HB.out | apply below_alloc | apply pw_below_drewN | apply below_drew1 | refine below_set ?_ (IsS127.ge HI0.out) | refine below_set ?_ GE403.out | refine below_set ?_ GE404.out | refine below_set ?_ GE411.out | refine below_set ?_ GE418.out) | exact HB.out)⟩⟩
      ·rw [if_neg c51] at H
       have c51b0 : decide (0 < x8_2) = false := decide_eq_false c51
       clear c51
       replace H := Option.bind_eq_some_iff.mp H
       obtain ⟨⟨t427, t428, t429, t430, t431⟩, A720, H⟩ := H
       replace H : (some (t405, t406, t407, t408, t427, t428, t429, t430, t431)) = some (r1, r2, r3, r4, r5, r6, r7, r8, r9) := H
       have A72 := Aside0.mk A720
       clear A720
       simp only [Option.some.injEq, Prod.mk.injEq] at H
       obtain ⟨rfl, rfl, rfl, rfl, rfl, rfl, rfl, rfl, rfl⟩ := H
       try go_wp2
       have n0_ := Aside0.mk (blk_drew BK403.out)
       have n1_ := Aside0.mk (blk_drew BK404.out)
       have n2_ := Aside0.mk (blk_drew BK411.out)
       have n3_ := Aside0.mk (blk_drew BK418.out)
       have n4_ := Aside0.mk (IsS127.drew HI0.out)
       have n5_ := Aside0.mk (keep_drew HK.out)
       have n6_ := Aside0.mk (below_drew1 HB.out)
       clear BK403
       clear BK404
       clear BK411
       clear BK418
       clear HI0
       clear HK
       clear HB
       have BK403 := n0_
       have BK404 := n1_
       have BK411 := n2_
       have BK418 := n3_
       have HI0 := n4_
       have HK := n5_
       have HB := n6_
       clear n0_ n1_ n2_ n3_ n4_ n5_ n6_
       refine start_ (n := 8) (S := fun w' => w'.cell? ⟨gb411, 0, none⟩ = some (.int .i64 t406) ∧ w'.cell? ⟨gb411, 1, none⟩ = some (.int .i64 t407) ∧ w'.cell? ⟨gb411, 2, none⟩ = some (.int .i64 t408) ∧ w'.cell? ⟨gb418, 0, none⟩ = some (.int .i64 x419000_2) ∧ w'.cell? ⟨gb418, 1, none⟩ = some (.int .i64 x419001_2) ∧ w'.cell? ⟨gb418, 2, none⟩ = some (.int .i64 x419002_2)) (ds := []) #[false, false, false, false, false, false, false, false] (by kernel_rfl) rfl rfl ⟨(blk_cell BK411.out 0).trans rfl, (blk_cell BK411.out 1).trans rfl, (blk_cell BK411.out 2).trans rfl, (blk_cell BK418.out 0).trans rfl, (blk_cell BK418.out 1).trans rfl, (blk_cell BK418.out 2).trans rfl⟩ (fun hHeld => ?_); refine with_tabW spec_l02Two.tab11 spec_l02Two.bits11 (fun HT_ HW_ => ?_)
       generalize wr.drew = w73 at BK403 BK404 BK411 BK418 HI0 HK HB hHeld ⊢
       refine pu 0 (some 53) #[true, false, false, false, false, false, false, false] HT_ ?_
       refine pu 2 (some 55) #[true, false, true, false, false, false, false, false] HT_ ?_
       refine take_ (i := 1) (N := some 54) (v := ?_) (a' := ?_) #[true, true, true, false, false, false, false, false] rfl rfl (take_ofW HT_.out HW_.out (by kernel_rfl)) (fun _ _ _ h => h) (Or.inl ⟨by rfl, ?_⟩) hHeld ?_ ?_
       rotate_left
       ·rintro w' ⟨s0, s1, s2, s3, s4, s5⟩
        go_simp
        with_reducible rfl
       rotate_left
       ·simp only [Act.put, List.setIfInBounds_toArray, List.set_cons_zero, List.set_cons_succ, i64_w, i32_w]
        rfl
       refine take_ (i := 3) (N := some 56) (v := ?_) (a' := ?_) #[true, true, true, true, false, false, false, false] rfl rfl (take_ofW HT_.out HW_.out (by kernel_rfl)) (fun _ _ _ h => h) (Or.inl ⟨by rfl, ?_⟩) hHeld ?_ ?_
       rotate_left
       ·rintro w' ⟨s0, s1, s2, s3, s4, s5⟩
        go_simp
        with_reducible rfl
       rotate_left
       ·simp only [Act.put, List.setIfInBounds_toArray, List.set_cons_zero, List.set_cons_succ, i64_w, i32_w]
        rfl
       refine one_ (i := 4) (N := some 57) #[true, true, true, true, true, false, false, false] rfl rfl (one_of HT_.out (by kernel_rfl)) (by decide) (fun K hK => ?_)
       refine goes_ Try.func142 (by kernel_rfl) rfl #[.pointer (some ⟨g, 0, none⟩), .agg #[.int .i64 x419000_2, .int .i64 x419001_2, .int .i64 x419002_2]] (by rfl) rfl rfl (by (try simp only [List.map_toArray, List.map_cons, List.map_nil]); first | done | rfl | (simp only [List.length_drop, List.length_take]; rfl)) ?_
       with_reducible refine (spec_l01Bad.calls g s0_0 x1001_2 x1002_2 x419000_2 x419001_2 x419002_2 t427 t428 t429 t430 t431 w0 _ ?side1 ?side2 A72.out).mono ?_
       (case side1 => repeat (first | (with_reducible first | exact HI0.out | apply IsS127.alloc | apply IsS127.drewN | apply IsS127.drew | apply IsS127.set_1 | apply IsS127.set_2 | refine IsS127.far ?_ NB0_403.out _ | refine IsS127.far ?_ NB0_404.out _ | refine IsS127.far ?_ NB0_411.out _ | refine IsS127.far ?_ NB0_418.out _) | exact HI0.out))
       (case side2 => repeat (first | (with_reducible first | exact HB.out | apply below_alloc | apply pw_below_drewN | apply below_drew1 | refine below_set ?_ (IsS127.ge HI0.out) | refine below_set ?_ GE403.out | refine below_set ?_ GE404.out | refine below_set ?_ GE411.out | refine below_set ?_ GE418.out) | exact HB.out))
       rintro e w74 ⟨rfl, hi, hb, hk⟩
       refine ⟨_, rfl, ?_⟩
       have n0_ := Aside0.mk (KeepBut.blk hk (g' := gb403) (o := .cells #[.int .i64 0, .int .i64 0, .int .i64 0] 27 (0, 0)) (be BK403) NB403_0.out (by simp))
       have n1_ := Aside0.mk (KeepBut.blk hk (g' := gb404) (o := .cells #[.int .i64 0, .int .i64 0, .int .i64 0] 27 (0, 0)) (be BK404) NB404_0.out (by simp))
       have n2_ := Aside0.mk (KeepBut.blk hk (g' := gb411) (o := .cells #[.int .i64 t406, .int .i64 t407, .int .i64 t408] 27 (0, 0)) (be BK411) NB411_0.out (by simp))
       have n3_ := Aside0.mk (KeepBut.blk hk (g' := gb418) (o := .cells #[.int .i64 x419000_2, .int .i64 x419001_2, .int .i64 x419002_2] 27 (0, 0)) (be BK418) NB418_0.out (by simp))
       have n4_ := Aside0.mk (KeepBut.trans (by repeat (first | (with_reducible first | exact HK.out | apply KeepBut.set_ | apply keep_drewN | apply keep_drew | apply keep_alloc | refine keep_far ?_ GW403.out _ | refine keep_far ?_ GW404.out _ | refine keep_far ?_ GW411.out _ | refine keep_far ?_ GW418.out _) | exact HK.out)) hk (.inl rfl))
       have n5_ := Aside0.mk (hb)
       have n6_ := Aside0.mk (hi)
       clear BK403
       clear BK404
       clear BK411
       clear BK418
       clear HK
       clear HB
       clear HI0
       have BK403 := n0_
       have BK404 := n1_
       have BK411 := n2_
       have BK418 := n3_
       have HK := n4_
       have HB := n5_
       have HI0 := n6_
       clear n0_ n1_ n2_ n3_ n4_ n5_ n6_
       (try clear hb)
       (try clear hb2)
       (try clear hk)
       (try clear hi)
       refine hK.out _ _ ⟨(blk_cell BK411.out 0).trans rfl, (blk_cell BK411.out 1).trans rfl, (blk_cell BK411.out 2).trans rfl, (blk_cell BK418.out 0).trans rfl, (blk_cell BK418.out 1).trans rfl, (blk_cell BK418.out 2).trans rfl⟩ (fun hHeld => ?_)
       clear hK K
       refine norm_ (a' := ?_) ?_ ?_
       rotate_left
       ·show Act.put _ (some 57) _ = _
        simp only [Act.put, List.setIfInBounds_toArray, List.set_cons_zero, List.set_cons_succ, i64_w, i32_w]
        rfl
       refine pu 5 (some 2) #[true, true, true, true, true, true, false, false] HT_ ?_
       refine one_ (i := 6) (N := none) #[true, true, true, true, true, true, true, false] rfl rfl (one_of HT_.out (by kernel_rfl)) (by decide) (fun K hK => ?_)
       have hs75 : w74.cell? ⟨gb403, 0, none⟩ = some (.int .i64 0) := (blk_cell BK403.out 0).trans rfl
       have hfs75 := blk_frozen BK403.out 0
       have hns75_1 := NB404_403.out
       have hns75_2 := NB411_403.out
       have hns75_3 := NB418_403.out
       have hms75_1 := NB403_404.out
       have hms75_2 := NB403_411.out
       have hms75_3 := NB403_418.out
       have hs76 : w74.cell? ⟨gb403, 1, none⟩ = some (.int .i64 0) := (blk_cell BK403.out 1).trans rfl
       have hfs76 := blk_frozen BK403.out 1
       have hns76_1 := NB404_403.out
       have hns76_2 := NB411_403.out
       have hns76_3 := NB418_403.out
       have hms76_1 := NB403_404.out
       have hms76_2 := NB403_411.out
       have hms76_3 := NB403_418.out
       have hs77 : w74.cell? ⟨gb403, 2, none⟩ = some (.int .i64 0) := (blk_cell BK403.out 2).trans rfl
       have hfs77 := blk_frozen BK403.out 2
       have hns77_1 := NB404_403.out
       have hns77_2 := NB411_403.out
       have hns77_3 := NB418_403.out
       have hms77_1 := NB403_404.out
       have hms77_2 := NB403_411.out
       have hms77_3 := NB403_418.out
       refine skip_ (w1 := ?_) (by rfl) rfl ?_ ?_
       rotate_left
       ·go_simp
        rfl
       refine hK.out _ _ ⟨((cell_far (p := ⟨gb403, _, none⟩) NB411_403.out _).trans (((cell_far (p := ⟨gb403, _, none⟩) NB411_403.out _).trans (((cell_far (p := ⟨gb403, _, none⟩) NB411_403.out _).trans (hHeld.1)))))), ((cell_far (p := ⟨gb403, _, none⟩) NB411_403.out _).trans (((cell_far (p := ⟨gb403, _, none⟩) NB411_403.out _).trans (((cell_far (p := ⟨gb403, _, none⟩) NB411_403.out _).trans (hHeld.2.1)))))), ((cell_far (p := ⟨gb403, _, none⟩) NB411_403.out _).trans (((cell_far (p := ⟨gb403, _, none⟩) NB411_403.out _).trans (((cell_far (p := ⟨gb403, _, none⟩) NB411_403.out _).trans (hHeld.2.2.1)))))), ((cell_far (p := ⟨gb403, _, none⟩) NB418_403.out _).trans (((cell_far (p := ⟨gb403, _, none⟩) NB418_403.out _).trans (((cell_far (p := ⟨gb403, _, none⟩) NB418_403.out _).trans (hHeld.2.2.2.1)))))), ((cell_far (p := ⟨gb403, _, none⟩) NB418_403.out _).trans (((cell_far (p := ⟨gb403, _, none⟩) NB418_403.out _).trans (((cell_far (p := ⟨gb403, _, none⟩) NB418_403.out _).trans (hHeld.2.2.2.2.1)))))), ((cell_far (p := ⟨gb403, _, none⟩) NB418_403.out _).trans (((cell_far (p := ⟨gb403, _, none⟩) NB418_403.out _).trans (((cell_far (p := ⟨gb403, _, none⟩) NB418_403.out _).trans (hHeld.2.2.2.2.2))))))⟩ (fun hHeld => ?_)
       clear hK K
       refine one_ (i := 7) (N := none) #[true, true, true, true, true, true, true, true] rfl rfl (one_of HT_.out (by kernel_rfl)) (by decide) (fun K hK => ?_)
       have hs78 : w74.cell? ⟨gb404, 0, none⟩ = some (.int .i64 0) := (blk_cell BK404.out 0).trans rfl
       have hfs78 := blk_frozen BK404.out 0
       have hns78_0 := NB403_404.out
       have hns78_2 := NB411_404.out
       have hns78_3 := NB418_404.out
       have hms78_0 := NB404_403.out
       have hms78_2 := NB404_411.out
       have hms78_3 := NB404_418.out
       have hs79 : w74.cell? ⟨gb404, 1, none⟩ = some (.int .i64 0) := (blk_cell BK404.out 1).trans rfl
       have hfs79 := blk_frozen BK404.out 1
       have hns79_0 := NB403_404.out
       have hns79_2 := NB411_404.out
       have hns79_3 := NB418_404.out
       have hms79_0 := NB404_403.out
       have hms79_2 := NB404_411.out
       have hms79_3 := NB404_418.out
       have hs80 : w74.cell? ⟨gb404, 2, none⟩ = some (.int .i64 0) := (blk_cell BK404.out 2).trans rfl
       have hfs80 := blk_frozen BK404.out 2
       have hns80_0 := NB403_404.out
       have hns80_2 := NB411_404.out
       have hns80_3 := NB418_404.out
       have hms80_0 := NB404_403.out
       have hms80_2 := NB404_411.out
       have hms80_3 := NB404_418.out
       refine skip_ (w1 := ?_) (by rfl) rfl ?_ ?_
       rotate_left
       ·go_simp
        rfl
       refine hK.out _ _ ⟨((cell_far (p := ⟨gb404, _, none⟩) NB411_404.out _).trans (((cell_far (p := ⟨gb404, _, none⟩) NB411_404.out _).trans (((cell_far (p := ⟨gb404, _, none⟩) NB411_404.out _).trans (hHeld.1)))))), ((cell_far (p := ⟨gb404, _, none⟩) NB411_404.out _).trans (((cell_far (p := ⟨gb404, _, none⟩) NB411_404.out _).trans (((cell_far (p := ⟨gb404, _, none⟩) NB411_404.out _).trans (hHeld.2.1)))))), ((cell_far (p := ⟨gb404, _, none⟩) NB411_404.out _).trans (((cell_far (p := ⟨gb404, _, none⟩) NB411_404.out _).trans (((cell_far (p := ⟨gb404, _, none⟩) NB411_404.out _).trans (hHeld.2.2.1)))))), ((cell_far (p := ⟨gb404, _, none⟩) NB418_404.out _).trans (((cell_far (p := ⟨gb404, _, none⟩) NB418_404.out _).trans (((cell_far (p := ⟨gb404, _, none⟩) NB418_404.out _).trans (hHeld.2.2.2.1)))))), ((cell_far (p := ⟨gb404, _, none⟩) NB418_404.out _).trans (((cell_far (p := ⟨gb404, _, none⟩) NB418_404.out _).trans (((cell_far (p := ⟨gb404, _, none⟩) NB418_404.out _).trans (hHeld.2.2.2.2.1)))))), ((cell_far (p := ⟨gb404, _, none⟩) NB418_404.out _).trans (((cell_far (p := ⟨gb404, _, none⟩) NB418_404.out _).trans (((cell_far (p := ⟨gb404, _, none⟩) NB418_404.out _).trans (hHeld.2.2.2.2.2))))))⟩ (fun hHeld => ?_)
       clear hK K
       refine done_ (done_of HT_.out (by kernel_rfl)) ?_
       try go_wp2
       refine bodyPost_ret (results_list (rs := [.tmp 2, .cell 3 27, .cell 4 27]) rfl (by simp) (.tmp (.cell gb403 27 #[.int .i64 t406, .int .i64 t407, .int .i64 t408] (0, 0) _ rfl (by (with_reducible repeat (first | apply bn | apply bd | apply ba)); refine blk_far ?_ NB403_404.out _; (with_reducible repeat (first | apply bn | apply bd | apply ba)); refine blk_far ?_ NB403_404.out _; (with_reducible repeat (first | apply bn | apply bd | apply ba)); refine blk_far ?_ NB403_404.out _; (with_reducible repeat (first | apply bn | apply bd | apply ba)); refine blk_put (cs := #[.int .i64 t406, .int .i64 t407, .int .i64 0]) ?_ 2 _ rfl; (with_reducible repeat (first | apply bn | apply bd | apply ba)); refine blk_put (cs := #[.int .i64 t406, .int .i64 0, .int .i64 0]) ?_ 1 _ rfl; (with_reducible repeat (first | apply bn | apply bd | apply ba)); refine blk_put (cs := #[.int .i64 0, .int .i64 0, .int .i64 0]) ?_ 0 _ rfl; (with_reducible repeat (first | apply bn | apply bd | apply ba)); exact BK403.out) Try.underlying27 rfl (by kernel_rfl) (.cell gb404 27 #[.int .i64 t427, .int .i64 t428, .int .i64 t429] (0, 0) _ rfl (by (with_reducible repeat (first | apply bn | apply bd | apply ba)); refine blk_put (cs := #[.int .i64 t427, .int .i64 t428, .int .i64 0]) ?_ 2 _ rfl; (with_reducible repeat (first | apply bn | apply bd | apply ba)); refine blk_put (cs := #[.int .i64 t427, .int .i64 0, .int .i64 0]) ?_ 1 _ rfl; (with_reducible repeat (first | apply bn | apply bd | apply ba)); refine blk_put (cs := #[.int .i64 0, .int .i64 0, .int .i64 0]) ?_ 0 _ rfl; (with_reducible repeat (first | apply bn | apply bd | apply ba)); refine blk_far ?_ NB404_403.out _; (with_reducible repeat (first | apply bn | apply bd | apply ba)); refine blk_far ?_ NB404_403.out _; (with_reducible repeat (first | apply bn | apply bd | apply ba)); refine blk_far ?_ NB404_403.out _; (with_reducible repeat (first | apply bn | apply bd | apply ba)); exact BK404.out) Try.underlying27 rfl (by kernel_rfl) .nil)))) rfl ?_
       exact ⟨by first | rfl | (simp [errW_none, errW_some] <;> rfl) | (simp [*, errW_none, errW_some] <;> rfl), by repeat (first | (with_reducible first | exact HI0.out | apply IsS127.alloc | apply IsS127.drewN | apply IsS127.drew | apply IsS127.set_1 | apply IsS127.set_2 | refine IsS127.far ?_ NB0_403.out _ | refine IsS127.far ?_ NB0_404.out _ | refine IsS127.far ?_ NB0_411.out _ | refine IsS127.far ?_ NB0_418.out _) | exact HI0.out), by repeat (first | (with_reducible first | exact HB.out | apply below_alloc | apply pw_below_drewN | apply below_drew1 | refine below_set ?_ (IsS127.ge HI0.out) | refine below_set ?_ GE403.out | refine below_set ?_ GE404.out | refine below_set ?_ GE411.out | refine below_set ?_ GE418.out) | exact HB.out), by repeat (first | (with_reducible first | exact HK.out | apply KeepBut.set_ | apply keep_drewN | apply keep_drew | apply keep_alloc | refine keep_far ?_ GW403.out _ | refine keep_far ?_ GW404.out _ | refine keep_far ?_ GW411.out _ | refine keep_far ?_ GW418.out _) | exact HK.out)⟩
   ·replace c39 := Bool.eq_false_iff.mpr c39
    subst c39
    have H1 : ((spec_l01Bad.f s0_0 x1001_4 x1002_4 t413 t414 t415).bind fun bt440 => (some (t405, t406, t407, t408, bt440.1, bt440.2.1, bt440.2.2.1, bt440.2.2.2.1, bt440.2.2.2.2))) = some (r1, r2, r3, r4, r5, r6, r7, r8, r9) := by rw [if_neg (show ¬ (false = true) by decide)] at H; exact H
    clear H
    have H := H1
    clear H1
    replace H := Option.bind_eq_some_iff.mp H
    obtain ⟨⟨t440, t441, t442, t443, t444⟩, A810, H⟩ := H
    replace H : (some (t405, t406, t407, t408, t440, t441, t442, t443, t444)) = some (r1, r2, r3, r4, r5, r6, r7, r8, r9) := H
    have A81 := Aside0.mk A810
    clear A810
    simp only [Option.some.injEq, Prod.mk.injEq] at H
    obtain ⟨rfl, rfl, rfl, rfl, rfl, rfl, rfl, rfl, rfl⟩ := H
    try go_wp2
    have n0_ := Aside0.mk (blk_drew BK403.out)
    have n1_ := Aside0.mk (blk_drew BK404.out)
    have n2_ := Aside0.mk (blk_drew BK411.out)
    have n3_ := Aside0.mk (blk_drew BK418.out)
    have n4_ := Aside0.mk (IsS127.drew HI0.out)
    have n5_ := Aside0.mk (keep_drew HK.out)
    have n6_ := Aside0.mk (below_drew1 HB.out)
    clear BK403
    clear BK404
    clear BK411
    clear BK418
    clear HI0
    clear HK
    clear HB
    have BK403 := n0_
    have BK404 := n1_
    have BK411 := n2_
    have BK418 := n3_
    have HI0 := n4_
    have HK := n5_
    have HB := n6_
    clear n0_ n1_ n2_ n3_ n4_ n5_ n6_
    refine start_ (n := 8) (S := fun w' => w'.cell? ⟨gb411, 0, none⟩ = some (.int .i64 t406) ∧ w'.cell? ⟨gb411, 1, none⟩ = some (.int .i64 t407) ∧ w'.cell? ⟨gb411, 2, none⟩ = some (.int .i64 t408) ∧ w'.cell? ⟨gb418, 0, none⟩ = some (.int .i64 t413) ∧ w'.cell? ⟨gb418, 1, none⟩ = some (.int .i64 t414) ∧ w'.cell? ⟨gb418, 2, none⟩ = some (.int .i64 t415)) (ds := []) #[false, false, false, false, false, false, false, false] (by kernel_rfl) rfl rfl ⟨(blk_cell BK411.out 0).trans rfl, (blk_cell BK411.out 1).trans rfl, (blk_cell BK411.out 2).trans rfl, (blk_cell BK418.out 0).trans rfl, (blk_cell BK418.out 1).trans rfl, (blk_cell BK418.out 2).trans rfl⟩ (fun hHeld => ?_); refine with_tabW spec_l02Two.tab11 spec_l02Two.bits11 (fun HT_ HW_ => ?_)
    generalize wc.drew = w82 at BK403 BK404 BK411 BK418 HI0 HK HB hHeld ⊢
    refine pu 0 (some 53) #[true, false, false, false, false, false, false, false] HT_ ?_
    refine pu 2 (some 55) #[true, false, true, false, false, false, false, false] HT_ ?_
    refine take_ (i := 1) (N := some 54) (v := ?_) (a' := ?_) #[true, true, true, false, false, false, false, false] rfl rfl (take_ofW HT_.out HW_.out (by kernel_rfl)) (fun _ _ _ h => h) (Or.inl ⟨by rfl, ?_⟩) hHeld ?_ ?_
    rotate_left
    ·rintro w' ⟨s0, s1, s2, s3, s4, s5⟩
     go_simp
     with_reducible rfl
    rotate_left
    ·simp only [Act.put, List.setIfInBounds_toArray, List.set_cons_zero, List.set_cons_succ, i64_w, i32_w]
     rfl
    refine take_ (i := 3) (N := some 56) (v := ?_) (a' := ?_) #[true, true, true, true, false, false, false, false] rfl rfl (take_ofW HT_.out HW_.out (by kernel_rfl)) (fun _ _ _ h => h) (Or.inl ⟨by rfl, ?_⟩) hHeld ?_ ?_
    rotate_left
    ·rintro w' ⟨s0, s1, s2, s3, s4, s5⟩
     go_simp
     with_reducible rfl
    rotate_left
    ·simp only [Act.put, List.setIfInBounds_toArray, List.set_cons_zero, List.set_cons_succ, i64_w, i32_w]
     rfl
    refine one_ (i := 4) (N := some 57) #[true, true, true, true, true, false, false, false] rfl rfl (one_of HT_.out (by kernel_rfl)) (by decide) (fun K hK => ?_)
    refine goes_ Try.func142 (by kernel_rfl) rfl #[.pointer (some ⟨g, 0, none⟩), .agg #[.int .i64 t413, .int .i64 t414, .int .i64 t415]] (by rfl) rfl rfl (by (try simp only [List.map_toArray, List.map_cons, List.map_nil]); first | done | rfl | (simp only [List.length_drop, List.length_take]; rfl)) ?_
    with_reducible refine (spec_l01Bad.calls g s0_0 x1001_4 x1002_4 t413 t414 t415 t440 t441 t442 t443 t444 w0 _ ?side1 ?side2 A81.out).mono ?_
    (case side1 => repeat (first | (with_reducible first | exact HI0.out | apply IsS127.alloc | apply IsS127.drewN | apply IsS127.drew | apply IsS127.set_1 | apply IsS127.set_2 | refine IsS127.far ?_ NB0_403.out _ | refine IsS127.far ?_ NB0_404.out _ | refine IsS127.far ?_ NB0_411.out _ | refine IsS127.far ?_ NB0_418.out _) | exact HI0.out))
    (case side2 => repeat (first | (with_reducible first | exact HB.out | apply below_alloc | apply pw_below_drewN | apply below_drew1 | refine below_set ?_ (IsS127.ge HI0.out) | refine below_set ?_ GE403.out | refine below_set ?_ GE404.out | refine below_set ?_ GE411.out | refine below_set ?_ GE418.out) | exact HB.out))
    rintro e w83 ⟨rfl, hi, hb, hk⟩
    refine ⟨_, rfl, ?_⟩
    have n0_ := Aside0.mk (KeepBut.blk hk (g' := gb403) (o := .cells #[.int .i64 0, .int .i64 0, .int .i64 0] 27 (0, 0)) (be BK403) NB403_0.out (by simp))
    have n1_ := Aside0.mk (KeepBut.blk hk (g' := gb404) (o := .cells #[.int .i64 0, .int .i64 0, .int .i64 0] 27 (0, 0)) (be BK404) NB404_0.out (by simp))
    have n2_ := Aside0.mk (KeepBut.blk hk (g' := gb411) (o := .cells #[.int .i64 t406, .int .i64 t407, .int .i64 t408] 27 (0, 0)) (be BK411) NB411_0.out (by simp))
    have n3_ := Aside0.mk (KeepBut.blk hk (g' := gb418) (o := .cells #[.int .i64 t413, .int .i64 t414, .int .i64 t415] 27 (0, 0)) (be BK418) NB418_0.out (by simp))
    have n4_ := Aside0.mk (KeepBut.trans (by repeat (first | (with_reducible first | exact HK.out | apply KeepBut.set_ | apply keep_drewN | apply keep_drew | apply keep_alloc | refine keep_far ?_ GW403.out _ | refine keep_far ?_ GW404.out _ | refine keep_far ?_ GW411.out _ | refine keep_far ?_ GW418.out _) | exact HK.out)) hk (.inl rfl))
    have n5_ := Aside0.mk (hb)
    have n6_ := Aside0.mk (hi)
    clear BK403
    clear BK404
    clear BK411
    clear BK418
    clear HK
    clear HB
    clear HI0
    have BK403 := n0_
    have BK404 := n1_
    have BK411 := n2_
    have BK418 := n3_
    have HK := n4_
    have HB := n5_
    have HI0 := n6_
    clear n0_ n1_ n2_ n3_ n4_ n5_ n6_
    (try clear hb)
    (try clear hb2)
    (try clear hk)
    (try clear hi)
    refine hK.out _ _ ⟨(blk_cell BK411.out 0).trans rfl, (blk_cell BK411.out 1).trans rfl, (blk_cell BK411.out 2).trans rfl, (blk_cell BK418.out 0).trans rfl, (blk_cell BK418.out 1).trans rfl, (blk_cell BK418.out 2).trans rfl⟩ (fun hHeld => ?_)
    clear hK K
    refine norm_ (a' := ?_) ?_ ?_
    rotate_left
    ·show Act.put _ (some 57) _ = _
     simp only [Act.put, List.setIfInBounds_toArray, List.set_cons_zero, List.set_cons_succ, i64_w, i32_w]
     rfl
    refine pu 5 (some 2) #[true, true, true, true, true, true, false, false] HT_ ?_
    refine one_ (i := 6) (N := none) #[true, true, true, true, true, true, true, false] rfl rfl (one_of HT_.out (by kernel_rfl)) (by decide) (fun K hK => ?_)
    have hs84 : w83.cell? ⟨gb403, 0, none⟩ = some (.int .i64 0) := (blk_cell BK403.out 0).trans rfl
    have hfs84 := blk_frozen BK403.out 0
    have hns84_1 := NB404_403.out
    have hns84_2 := NB411_403.out
    have hns84_3 := NB418_403.out
    have hms84_1 := NB403_404.out
    have hms84_2 := NB403_411.out
    have hms84_3 := NB403_418.out
    have hs85 : w83.cell? ⟨gb403, 1, none⟩ = some (.int .i64 0) := (blk_cell BK403.out 1).trans rfl
    have hfs85 := blk_frozen BK403.out 1
    have hns85_1 := NB404_403.out
    have hns85_2 := NB411_403.out
    have hns85_3 := NB418_403.out
    have hms85_1 := NB403_404.out
    have hms85_2 := NB403_411.out
    have hms85_3 := NB403_418.out
    have hs86 : w83.cell? ⟨gb403, 2, none⟩ = some (.int .i64 0) := (blk_cell BK403.out 2).trans rfl
    have hfs86 := blk_frozen BK403.out 2
    have hns86_1 := NB404_403.out
    have hns86_2 := NB411_403.out
    have hns86_3 := NB418_403.out
    have hms86_1 := NB403_404.out
    have hms86_2 := NB403_411.out
    have hms86_3 := NB403_418.out
    refine skip_ (w1 := ?_) (by rfl) rfl ?_ ?_
    rotate_left
    ·go_simp
     rfl
    refine hK.out _ _ ⟨((cell_far (p := ⟨gb403, _, none⟩) NB411_403.out _).trans (((cell_far (p := ⟨gb403, _, none⟩) NB411_403.out _).trans (((cell_far (p := ⟨gb403, _, none⟩) NB411_403.out _).trans (hHeld.1)))))), ((cell_far (p := ⟨gb403, _, none⟩) NB411_403.out _).trans (((cell_far (p := ⟨gb403, _, none⟩) NB411_403.out _).trans (((cell_far (p := ⟨gb403, _, none⟩) NB411_403.out _).trans (hHeld.2.1)))))), ((cell_far (p := ⟨gb403, _, none⟩) NB411_403.out _).trans (((cell_far (p := ⟨gb403, _, none⟩) NB411_403.out _).trans (((cell_far (p := ⟨gb403, _, none⟩) NB411_403.out _).trans (hHeld.2.2.1)))))), ((cell_far (p := ⟨gb403, _, none⟩) NB418_403.out _).trans (((cell_far (p := ⟨gb403, _, none⟩) NB418_403.out _).trans (((cell_far (p := ⟨gb403, _, none⟩) NB418_403.out _).trans (hHeld.2.2.2.1)))))), ((cell_far (p := ⟨gb403, _, none⟩) NB418_403.out _).trans (((cell_far (p := ⟨gb403, _, none⟩) NB418_403.out _).trans (((cell_far (p := ⟨gb403, _, none⟩) NB418_403.out _).trans (hHeld.2.2.2.2.1)))))), ((cell_far (p := ⟨gb403, _, none⟩) NB418_403.out _).trans (((cell_far (p := ⟨gb403, _, none⟩) NB418_403.out _).trans (((cell_far (p := ⟨gb403, _, none⟩) NB418_403.out _).trans (hHeld.2.2.2.2.2))))))⟩ (fun hHeld => ?_)
    clear hK K
    refine one_ (i := 7) (N := none) #[true, true, true, true, true, true, true, true] rfl rfl (one_of HT_.out (by kernel_rfl)) (by decide) (fun K hK => ?_)
    have hs87 : w83.cell? ⟨gb404, 0, none⟩ = some (.int .i64 0) := (blk_cell BK404.out 0).trans rfl
    have hfs87 := blk_frozen BK404.out 0
    have hns87_0 := NB403_404.out
    have hns87_2 := NB411_404.out
    have hns87_3 := NB418_404.out
    have hms87_0 := NB404_403.out
    have hms87_2 := NB404_411.out
    have hms87_3 := NB404_418.out
    have hs88 : w83.cell? ⟨gb404, 1, none⟩ = some (.int .i64 0) := (blk_cell BK404.out 1).trans rfl
    have hfs88 := blk_frozen BK404.out 1
    have hns88_0 := NB403_404.out
    have hns88_2 := NB411_404.out
    have hns88_3 := NB418_404.out
    have hms88_0 := NB404_403.out
    have hms88_2 := NB404_411.out
    have hms88_3 := NB404_418.out
    have hs89 : w83.cell? ⟨gb404, 2, none⟩ = some (.int .i64 0) := (blk_cell BK404.out 2).trans rfl
    have hfs89 := blk_frozen BK404.out 2
    have hns89_0 := NB403_404.out
    have hns89_2 := NB411_404.out
    have hns89_3 := NB418_404.out
    have hms89_0 := NB404_403.out
    have hms89_2 := NB404_411.out
    have hms89_3 := NB404_418.out
    refine skip_ (w1 := ?_) (by rfl) rfl ?_ ?_
    rotate_left
    ·go_simp
     rfl
    refine hK.out _ _ ⟨((cell_far (p := ⟨gb404, _, none⟩) NB411_404.out _).trans (((cell_far (p := ⟨gb404, _, none⟩) NB411_404.out _).trans (((cell_far (p := ⟨gb404, _, none⟩) NB411_404.out _).trans (hHeld.1)))))), ((cell_far (p := ⟨gb404, _, none⟩) NB411_404.out _).trans (((cell_far (p := ⟨gb404, _, none⟩) NB411_404.out _).trans (((cell_far (p := ⟨gb404, _, none⟩) NB411_404.out _).trans (hHeld.2.1)))))), ((cell_far (p := ⟨gb404, _, none⟩) NB411_404.out _).trans (((cell_far (p := ⟨gb404, _, none⟩) NB411_404.out _).trans (((cell_far (p := ⟨gb404, _, none⟩) NB411_404.out _).trans (hHeld.2.2.1)))))), ((cell_far (p := ⟨gb404, _, none⟩) NB418_404.out _).trans (((cell_far (p := ⟨gb404, _, none⟩) NB418_404.out _).trans (((cell_far (p := ⟨gb404, _, none⟩) NB418_404.out _).trans (hHeld.2.2.2.1)))))), ((cell_far (p := ⟨gb404, _, none⟩) NB418_404.out _).trans (((cell_far (p := ⟨gb404, _, none⟩) NB418_404.out _).trans (((cell_far (p := ⟨gb404, _, none⟩) NB418_404.out _).trans (hHeld.2.2.2.2.1)))))), ((cell_far (p := ⟨gb404, _, none⟩) NB418_404.out _).trans (((cell_far (p := ⟨gb404, _, none⟩) NB418_404.out _).trans (((cell_far (p := ⟨gb404, _, none⟩) NB418_404.out _).trans (hHeld.2.2.2.2.2))))))⟩ (fun hHeld => ?_)
    clear hK K
    refine done_ (done_of HT_.out (by kernel_rfl)) ?_
    try go_wp2
    refine bodyPost_ret (results_list (rs := [.tmp 2, .cell 3 27, .cell 4 27]) rfl (by simp) (.tmp (.cell gb403 27 #[.int .i64 t406, .int .i64 t407, .int .i64 t408] (0, 0) _ rfl (by (with_reducible repeat (first | apply bn | apply bd | apply ba)); refine blk_far ?_ NB403_404.out _; (with_reducible repeat (first | apply bn | apply bd | apply ba)); refine blk_far ?_ NB403_404.out _; (with_reducible repeat (first | apply bn | apply bd | apply ba)); refine blk_far ?_ NB403_404.out _; (with_reducible repeat (first | apply bn | apply bd | apply ba)); refine blk_put (cs := #[.int .i64 t406, .int .i64 t407, .int .i64 0]) ?_ 2 _ rfl; (with_reducible repeat (first | apply bn | apply bd | apply ba)); refine blk_put (cs := #[.int .i64 t406, .int .i64 0, .int .i64 0]) ?_ 1 _ rfl; (with_reducible repeat (first | apply bn | apply bd | apply ba)); refine blk_put (cs := #[.int .i64 0, .int .i64 0, .int .i64 0]) ?_ 0 _ rfl; (with_reducible repeat (first | apply bn | apply bd | apply ba)); exact BK403.out) Try.underlying27 rfl (by kernel_rfl) (.cell gb404 27 #[.int .i64 t440, .int .i64 t441, .int .i64 t442] (0, 0) _ rfl (by (with_reducible repeat (first | apply bn | apply bd | apply ba)); refine blk_put (cs := #[.int .i64 t440, .int .i64 t441, .int .i64 0]) ?_ 2 _ rfl; (with_reducible repeat (first | apply bn | apply bd | apply ba)); refine blk_put (cs := #[.int .i64 t440, .int .i64 0, .int .i64 0]) ?_ 1 _ rfl; (with_reducible repeat (first | apply bn | apply bd | apply ba)); refine blk_put (cs := #[.int .i64 0, .int .i64 0, .int .i64 0]) ?_ 0 _ rfl; (with_reducible repeat (first | apply bn | apply bd | apply ba)); refine blk_far ?_ NB404_403.out _; (with_reducible repeat (first | apply bn | apply bd | apply ba)); refine blk_far ?_ NB404_403.out _; (with_reducible repeat (first | apply bn | apply bd | apply ba)); refine blk_far ?_ NB404_403.out _; (with_reducible repeat (first | apply bn | apply bd | apply ba)); exact BK404.out) Try.underlying27 rfl (by kernel_rfl) .nil)))) rfl ?_
    exact ⟨by first | rfl | (simp [errW_none, errW_some] <;> rfl) | (simp [*, errW_none, errW_some] <;> rfl), by repeat (first | (with_reducible first | exact HI0.out | apply IsS127.alloc | apply IsS127.drewN | apply IsS127.drew | apply IsS127.set_1 | apply IsS127.set_2 | refine IsS127.far ?_ NB0_403.out _ | refine IsS127.far ?_ NB0_404.out _ | refine IsS127.far ?_ NB0_411.out _ | refine IsS127.far ?_ NB0_418.out _) | exact HI0.out), by repeat (first | (with_reducible first | exact HB.out | apply below_alloc | apply pw_below_drewN | apply below_drew1 | refine below_set ?_ (IsS127.ge HI0.out) | refine below_set ?_ GE403.out | refine below_set ?_ GE404.out | refine below_set ?_ GE411.out | refine below_set ?_ GE418.out) | exact HB.out), by repeat (first | (with_reducible first | exact HK.out | apply KeepBut.set_ | apply keep_drewN | apply keep_drew | apply keep_alloc | refine keep_far ?_ GW403.out _ | refine keep_far ?_ GW404.out _ | refine keep_far ?_ GW411.out _ | refine keep_far ?_ GW418.out _) | exact HK.out)⟩

end Go.Proofs.Ytpmepopagapeiaa.PFnTreeDistances

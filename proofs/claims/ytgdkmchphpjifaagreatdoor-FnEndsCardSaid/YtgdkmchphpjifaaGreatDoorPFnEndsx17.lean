-- Printed by the kit's print and repaired by a program of this session.
import Derived.Test.YtgdkmchphpjifaaGreatDoorPFnEndsx0
import Derived.Test.YtgdkmchphpjifaaGreatDoorPFnEndsx3
import Derived.Test.YtgdkmchphpjifaaGreatDoorPFnEndsx7
import Derived.Test.YtgdkmchphpjifaaGreatDoorPFnEndsx16
namespace Go.Proofs.YtgdkmchphpjifaaGreatDoor.PFnEnds
open Go.RowKit Go.Proofs.YtgdkmchphpjifaaGreatDoorW.PrintWords Go.Proofs.YtgdkmchphpjifaaGreatDoorW.PrintLast Go.Proofs.YtgdkmchphpjifaaGreatDoorW.PrintMore
attribute [local go_sem] max2_int min2_int max_two min_two max_three min_three max_four min_four
set_option linter.unusedVariables false
set_option linter.unusedSimpArgs false

/-! ### spec_l01Near: function 51 -/
def spec_l01Near.f (s0_0 : List Int) (s0_1 : Int) (s0_2 : Int) (a1 : Int) : Option (Int × Int × Int) := (spec_l01Next.f s0_0 s0_1 s0_2 14).bind fun bt561 => (if bt561.1 = 0 then ((spec_l01Pick.f s0_0 bt561.2.1 bt561.2.2 (([(-1), wrap64 (a1 + 1), 1099511627776, (-4611686018427387904)] : List Int))).bind fun bt567 => (some (bt567.1, bt567.2.1, bt567.2.2))) else ((spec_l01Next.f s0_0 bt561.2.1 bt561.2.2 (wrap64 (a1 + 1))).bind fun bt570 => (some (bt570.1, bt570.2.1, bt570.2.2))))
set_option maxHeartbeats 8000000 in
set_option maxRecDepth 100000 in
theorem spec_l01Near.calls (g : Nat) (s0_0 : List Int) (s0_1 : Int) (s0_2 : Int) (a1 : Int) (r1 : Int) (r2 : Int) (r3 : Int) (w0 w : World) (hI : IsS79 w0 w g s0_0 s0_1 s0_2) (hB : Below w0.heap.size w0 w) (h : spec_l01Near.f s0_0 s0_1 s0_2 a1 = some (r1, r2, r3)) :
  Calls Tryz.prog 51 #[.pointer (some ⟨g, 0, none⟩), .int .i64 a1] w fun e w' => e = .returned (.int .i64 r1) ∧ IsS79 w0 w' g s0_0 r2 r3 ∧ Below w0.heap.size w0 w' ∧ KeepBut w w' g none := by
 have HI0 := Aside0.mk hI
 have HK := Aside0.mk (KeepBut.refl w g none)
 have HL := Aside0.mk hB.size
 clear hI
 have HW0 := Aside0.mk hB.size
 have HB := Aside0.mk hB
 clear hB
 unfold spec_l01Near.f at h
 have H := h
 clear h
 replace H := zi H
 obtain ⟨⟨t561, t562, t563⟩, A3, H⟩ := H
 try dsimp only at H
 replace H := ii H
 rcases H with ⟨c4, H⟩ | ⟨c4, H⟩
 ·obtain ⟨c4b0, c4b1⟩ := zz c4
  clear c4
  obtain ⟨y564, hy564⟩ : ∃ y_ : List Int, y_ = (([(-1), wrap64 (a1 + 1), 1099511627776, (-4611686018427387904)] : List Int)) := ⟨_, rfl⟩
  replace H : ((spec_l01Pick.f s0_0 t562 t563 y564).bind fun bt567 => (some (bt567.1, bt567.2.1, bt567.2.2))) = some (r1, r2, r3) := by first | exact hy564 ▸ H | exact H
  have Ny564 := Aside0.mk hy564
  clear hy564
  replace H := zi H
  obtain ⟨⟨t567, t568, t569⟩, A5, H⟩ := H
  try dsimp only at H
  simp only [Option.some.injEq, Prod.mk.injEq] at H
  obtain ⟨rfl, rfl, rfl⟩ := H
  go_enter Tryz.func51, Tryz.ntmps51
  go_wp2_with (first | ((with_reducible refine zf 44 rfl ?_); refine g1 (some 6) Tryz.func44 #[.pointer (some ⟨g, 0, none⟩), .int .i64 14] ?_; (with_reducible refine (spec_l01Next.calls g s0_0 s0_1 s0_2 14 t561 t562 t563 w0 _ ?side1 ?side2 A3.out).mono ?_); (case side1 => exact IsS79.a); (case side2 => exact IsS79.b); rintro e w6 ⟨rfl, hi, hb, hk⟩; refine ⟨_, rfl, ?_⟩; replace HK := Aside0.mk (KeepBut.trans (kl) hk (.inl rfl)); replace HI0 := Aside0.mk (hi); replace HB := Aside0.mk (hb); (try clear hb hk)) | ((with_reducible refine zg 11 rfl ?_); refine Kd.R_lit (Kd.int .i64) _ 2 ?hg (N := 11) ?hd (xs := ([(-1), wrap64 (a1 + 1), 1099511627776, (-4611686018427387904)] : List Int)) (inner := [.int .i64 (-1), .int .i64 (wrap64 (a1 + 1)), .int .i64 1099511627776, .int .i64 (-4611686018427387904)]) (ok := fun _ => True) (okp := fun _ => True) ?hr ?hp (fun _ hk => hk) trivial (Below.refl _ _) (Nat.le_refl _) (by simp) ?_; (case hd => rfl); (case hg => rfl); (case hr => first | (go_simp; done) | (go_simp; rfl)); (case hp => exact (Reps.one (show Kd.M (Kd.int .i64) _ _ _ (-1) [.int .i64 (-1)] from rfl) (Reps.one (show Kd.M (Kd.int .i64) _ _ _ (wrap64 (a1 + 1)) [.int .i64 (wrap64 (a1 + 1))] from rfl) (Reps.one (show Kd.M (Kd.int .i64) _ _ _ 1099511627776 [.int .i64 1099511627776] from rfl) (Reps.one (show Kd.M (Kd.int .i64) _ _ _ (-4611686018427387904) [.int .i64 (-4611686018427387904)] from rfl) (Reps.none _ _)))))); intro v565 w7 ho8 hb hg_ hnew_; clear hg_ hnew_; (first | rw [← Ny564.out] at ho8 | (simp only [Int.reduceToNat] at ho8; rw [← Ny564.out] at ho8)); have HO566 := Aside0.mk (Kd.R_lower ho8 (keep_size (w := w) (g := g) (row := none) (kl))); replace HK := Aside0.mk (KeepBut.trans (kl) (KeepBut.of_below hb g none) (.inl rfl)); replace HB := Aside0.mk (below_step IsS79.b hb); replace HI0 := Aside0.mk (IsS79.below (IsS79.a) hb); clear hb ho8; obtain ⟨Ao9, co9, eo9⟩ := Kd.R_slice HO566.out; subst eo9) | ((with_reducible refine zf 28 rfl ?_); refine g1 (some 12) Tryz.func28 #[.pointer (some ⟨g, 0, none⟩), .slice Ao9 y564.length co9] ?_; (with_reducible refine (spec_l01Pick.calls g s0_0 t562 t563 _ _ y564 t567 t568 t569 w0 _ ?side1 ?side2 ?side3 ?side4 ?side5 A5.out).mono ?_); (case side1 => exact IsS79.a); (case side2 => exact IsS79.b); (case side3 => repeat (first | exact (Kd.R_reads' HO566.out).2.2 | (with_reducible refine Kd.C_alloc ?_ _) | (with_reducible refine Kd.C_drewN ?_ _) | (with_reducible refine Kd.C_drew ?_))); (case side4 => exact (Kd.R_reads' HO566.out).2.1); (case side5 => exact far_slice (IsS79.own_ne HI0.out HO566.out (by decide))); rintro e w10 ⟨rfl, hi, hb, hk⟩; refine ⟨_, rfl, ?_⟩; replace HO566 := Aside0.mk (Kd.R_mono (Kd.R_keep (IsS79.apart (IsS79.a : IsS79 w0 _ g s0_0 t562 t563) (by (with_reducible repeat (first | apply Kd.R_alloc | apply Kd.R_drewN | apply Kd.R_drew)); exact HO566.out) (by decide)) hk (fun _ h => h.2)) (fun _ h => h.1)); replace HK := Aside0.mk (KeepBut.trans (kl) hk (.inl rfl)); replace HI0 := Aside0.mk (hi); replace HB := Aside0.mk (hb); (try clear hb hk)))
  go_ret
  exact ⟨er, IsS79.a, IsS79.b, kl⟩
 ·obtain ⟨c4b0, c4b1⟩ := zy c4
  replace H := zi H
  obtain ⟨⟨t570, t571, t572⟩, A11, H⟩ := H
  try dsimp only at H
  simp only [Option.some.injEq, Prod.mk.injEq] at H
  obtain ⟨rfl, rfl, rfl⟩ := H
  go_enter Tryz.func51, Tryz.ntmps51
  go_wp2_with (first | ((with_reducible refine zf 44 rfl ?_); refine g1 (some 6) Tryz.func44 #[.pointer (some ⟨g, 0, none⟩), .int .i64 14] ?_; (with_reducible refine (spec_l01Next.calls g s0_0 s0_1 s0_2 14 t561 t562 t563 w0 _ ?side1 ?side2 A3.out).mono ?_); (case side1 => exact IsS79.a); (case side2 => exact IsS79.b); rintro e w12 ⟨rfl, hi, hb, hk⟩; refine ⟨_, rfl, ?_⟩; replace HK := Aside0.mk (KeepBut.trans (kl) hk (.inl rfl)); replace HI0 := Aside0.mk (hi); replace HB := Aside0.mk (hb); (try clear hb hk)) | ((with_reducible refine zf 44 rfl ?_); refine g1 (some 16) Tryz.func44 #[.pointer (some ⟨g, 0, none⟩), .int .i64 (wrap64 (a1 + 1))] ?_; (with_reducible refine (spec_l01Next.calls g s0_0 t562 t563 (wrap64 (a1 + 1)) t570 t571 t572 w0 _ ?side1 ?side2 A11.out).mono ?_); (case side1 => exact IsS79.a); (case side2 => exact IsS79.b); rintro e w13 ⟨rfl, hi, hb, hk⟩; refine ⟨_, rfl, ?_⟩; replace HK := Aside0.mk (KeepBut.trans (kl) hk (.inl rfl)); replace HI0 := Aside0.mk (hi); replace HB := Aside0.mk (hb); (try clear hb hk)))
  go_ret
  exact ⟨er, IsS79.a, IsS79.b, kl⟩

/-! ### spec_DrawBallOfEnd: function 19 -/
def spec_DrawBallOfEnd.f (k : Nat) (l0 : List Int) : Option (Int × Int × Int × Int) := (spec_l01From.f k l0).bind fun bt574 => ((spec_l01Pick.f bt574.1 bt574.2.1 bt574.2.2 (([2, 3, 5, 7, 2, 3, 4] : List Int))).bind fun bt581 => ((spec_l01DrawEnd.f k bt574.1 bt581.2.1 bt581.2.2).bind fun bt584 => ((spec_l01Near.f bt574.1 bt584.2.2.1 bt584.2.2.2 12).bind fun bt588 => (some (bt581.1, bt584.1, bt584.2.1, wrap64 (bt588.1 - 6))))))
set_option maxHeartbeats 8000000 in
set_option maxRecDepth 100000 in
theorem spec_DrawBallOfEnd.calls (k : Nat) (A0 : Option Addr) (c0 : Nat) (l0 : List Int) (r1 : Int) (r2 : Int) (r3 : Int) (r4 : Int) (w : World) (hr0 : Kd.C (Kd.int .u8) w A0 l0.length l0) (hc0 : l0.length ≤ c0) (h : spec_DrawBallOfEnd.f k l0 = some (r1, r2, r3, r4)) :
  Calls Tryz.prog 19 #[.slice A0 l0.length c0] w fun e w' => e = .returned (.tuple #[.int .i64 r1, .agg #[.int .i64 r2, .int .i64 r3], .int .i64 r4]) ∧ Below w.heap.size w w' := by
 have hu27 := Tryz.underlying27
 have HR0 := Aside0.mk hr0
 have HC0 := Aside0.mk hc0
 clear hr0 hc0
 have HB := Aside0.mk (Below.refl w.heap.size w)
 unfold spec_DrawBallOfEnd.f at h
 have H := h
 clear h
 replace H := zi H
 obtain ⟨⟨t574, t575, t576⟩, A2, H⟩ := H
 try dsimp only at H
 obtain ⟨y578, hy578⟩ : ∃ y_ : List Int, y_ = (([2, 3, 5, 7, 2, 3, 4] : List Int)) := ⟨_, rfl⟩
 replace H : ((spec_l01Pick.f t574 t575 t576 y578).bind fun bt581 => ((spec_l01DrawEnd.f k t574 bt581.2.1 bt581.2.2).bind fun bt584 => ((spec_l01Near.f t574 bt584.2.2.1 bt584.2.2.2 12).bind fun bt588 => (some (bt581.1, bt584.1, bt584.2.1, wrap64 (bt588.1 - 6)))))) = some (r1, r2, r3, r4) := by first | exact hy578 ▸ H | exact H
 have Ny578 := Aside0.mk hy578
 clear hy578
 replace H := zi H
 obtain ⟨⟨t581, t582, t583⟩, A3, H⟩ := H
 try dsimp only at H
 replace H := zi H
 obtain ⟨⟨t584, t585, t586, t587⟩, A4, H⟩ := H
 try dsimp only at H
 replace H := zi H
 obtain ⟨⟨t588, t589, t590⟩, A5, H⟩ := H
 try dsimp only at H
 simp only [Option.some.injEq, Prod.mk.injEq] at H
 obtain ⟨rfl, rfl, rfl, rfl⟩ := H
 go_enter Tryz.func19, Tryz.ntmps19
 go_wp2_with (first | ((with_reducible refine zg 3 rfl ?_); refine zb 3 27 #[.int .i64 0, .int .i64 0] ?_; intro gb573 hg w6 BK573 hb; have GW573 := sg hg; replace HB := bs hb; clear hb hg) | ((with_reducible refine zf 26 rfl ?_); refine g1 (some 7) Tryz.func26 #[.slice A0 l0.length c0] ?_; (with_reducible refine (spec_l01From.calls k _ _ l0 t574 t575 t576 w _ ?side1 ?side2 ?side3 A2.out).mono ?_); (case side1 => exact bl); (case side2 => exact HR0.out); (case side3 => exact HC0.out); rintro e w7 ⟨g577, rfl, hi, hb, hb2⟩; refine ⟨_, rfl, ?_⟩; have HI577 := Aside0.mk (hi); have NB577_573 := Aside0.mk (IsS79.ne_blk hi (blk_below (g := gb573) (o := .cells #[.int .i64 0, .int .i64 0] 27 (0, 0)) (be BK573) hb2) (by decide)); have NB573_577 := Aside0.mk (Ne.symm (IsS79.ne_blk hi (blk_below (g := gb573) (o := .cells #[.int .i64 0, .int .i64 0] 27 (0, 0)) (be BK573) hb2) (by decide))); replace BK573 := Aside0.mk (blk_below (g := gb573) (o := .cells #[.int .i64 0, .int .i64 0] 27 (0, 0)) (be BK573) hb2); replace HB := Aside0.mk (hb); (try clear hb); (try clear hb2); (try clear hk); (try clear hi)) | ((with_reducible refine zg 9 rfl ?_); refine Kd.R_lit (Kd.int .i64) _ 2 ?hg (N := 9) ?hd (xs := ([2, 3, 5, 7, 2, 3, 4] : List Int)) (inner := [.int .i64 2, .int .i64 3, .int .i64 5, .int .i64 7, .int .i64 2, .int .i64 3, .int .i64 4]) (ok := fun _ => True) (okp := fun _ => True) ?hr ?hp (fun _ hk => hk) trivial (Below.refl _ _) (Nat.le_refl _) (by simp) ?_; (case hd => rfl); (case hg => rfl); (case hr => first | (go_simp; done) | (go_simp; rfl)); (case hp => exact (Reps.one (show Kd.M (Kd.int .i64) _ _ _ 2 [.int .i64 2] from rfl) (Reps.one (show Kd.M (Kd.int .i64) _ _ _ 3 [.int .i64 3] from rfl) (Reps.one (show Kd.M (Kd.int .i64) _ _ _ 5 [.int .i64 5] from rfl) (Reps.one (show Kd.M (Kd.int .i64) _ _ _ 7 [.int .i64 7] from rfl) (Reps.one (show Kd.M (Kd.int .i64) _ _ _ 2 [.int .i64 2] from rfl) (Reps.one (show Kd.M (Kd.int .i64) _ _ _ 3 [.int .i64 3] from rfl) (Reps.one (show Kd.M (Kd.int .i64) _ _ _ 4 [.int .i64 4] from rfl) (Reps.none _ _))))))))); intro v579 w8 ho9 hb hg_ hnew_; clear hg_ hnew_; (first | rw [← Ny578.out] at ho9 | (simp only [Int.reduceToNat] at ho9; rw [← Ny578.out] at ho9)); have HO580 := Aside0.mk (Kd.R_lower ho9 (below_size (by repeat (first | (with_reducible first | exact HB.out | apply below_alloc | apply pw_below_drewN | apply below_drew1 | refine below_set ?_ (IsS79.ge HI577.out) | refine below_set ?_ GW573.out) | exact HB.out)))); replace BK573 := bb BK573 hb; replace HB := Aside0.mk (below_step (by repeat (first | (with_reducible first | exact HB.out | apply below_alloc | apply pw_below_drewN | apply below_drew1 | refine below_set ?_ (IsS79.ge HI577.out) | refine below_set ?_ GW573.out) | exact HB.out)) hb); replace HI577 := Aside0.mk (IsS79.below (by repeat (first | (with_reducible first | exact HI577.out | apply IsS79.alloc | apply IsS79.drewN | apply IsS79.drew | apply IsS79.set_1 | apply IsS79.set_2 | refine IsS79.far ?_ NB577_573.out _) | exact HI577.out)) hb); clear hb ho9; obtain ⟨Ao10, co10, eo10⟩ := Kd.R_slice HO580.out; subst eo10) | ((with_reducible refine zf 28 rfl ?_); refine g1 (some 10) Tryz.func28 #[.pointer (some ⟨g577, 0, none⟩), .slice Ao10 y578.length co10] ?_; (with_reducible refine (spec_l01Pick.calls g577 t574 t575 t576 _ _ y578 t581 t582 t583 w _ ?side1 ?side2 ?side3 ?side4 ?side5 A3.out).mono ?_); (case side1 => repeat (first | (with_reducible first | exact HI577.out | apply IsS79.alloc | apply IsS79.drewN | apply IsS79.drew | apply IsS79.set_1 | apply IsS79.set_2 | refine IsS79.far ?_ NB577_573.out _) | exact HI577.out)); (case side2 => repeat (first | (with_reducible first | exact HB.out | apply below_alloc | apply pw_below_drewN | apply below_drew1 | refine below_set ?_ (IsS79.ge HI577.out) | refine below_set ?_ GW573.out) | exact HB.out)); (case side3 => repeat (first | exact (Kd.R_reads' HO580.out).2.2 | (with_reducible refine Kd.C_alloc ?_ _) | (with_reducible refine Kd.C_drewN ?_ _) | (with_reducible refine Kd.C_drew ?_))); (case side4 => exact (Kd.R_reads' HO580.out).2.1); (case side5 => exact far_slice (IsS79.own_ne HI577.out HO580.out (by decide))); rintro e w11 ⟨rfl, hi, hb, hk⟩; refine ⟨_, rfl, ?_⟩; replace BK573 := kb hk BK573 NB573_577; replace HO580 := Aside0.mk (Kd.R_mono (Kd.R_keep (IsS79.apart (show IsS79 w _ g577 t574 t575 t576 from by repeat (first | (with_reducible first | exact HI577.out | apply IsS79.alloc | apply IsS79.drewN | apply IsS79.drew | apply IsS79.set_1 | apply IsS79.set_2 | refine IsS79.far ?_ NB577_573.out _) | exact HI577.out)) (by (with_reducible repeat (first | apply Kd.R_alloc | apply Kd.R_drewN | apply Kd.R_drew)); exact HO580.out) (by decide)) hk (fun _ h => h.2)) (fun _ h => h.1)); replace HI577 := Aside0.mk (hi); replace HB := Aside0.mk (hb); (try clear hb hk)) | ((with_reducible refine zf 49 rfl ?_); refine g1 (some 12) Tryz.func49 #[.pointer (some ⟨g577, 0, none⟩)] ?_; (with_reducible refine (spec_l01DrawEnd.calls k g577 t574 t582 t583 t584 t585 t586 t587 w _ ?side1 ?side2 A4.out).mono ?_); (case side1 => repeat (first | (with_reducible first | exact HI577.out | apply IsS79.alloc | apply IsS79.drewN | apply IsS79.drew | apply IsS79.set_1 | apply IsS79.set_2 | refine IsS79.far ?_ NB577_573.out _) | exact HI577.out)); (case side2 => repeat (first | (with_reducible first | exact HB.out | apply below_alloc | apply pw_below_drewN | apply below_drew1 | refine below_set ?_ (IsS79.ge HI577.out) | refine below_set ?_ GW573.out) | exact HB.out)); rintro e w12 ⟨rfl, hi, hb, hk⟩; refine ⟨_, rfl, ?_⟩; replace BK573 := kb hk BK573 NB573_577; replace HO580 := Aside0.mk (Kd.R_mono (Kd.R_keep (IsS79.apart (show IsS79 w _ g577 t574 t582 t583 from by repeat (first | (with_reducible first | exact HI577.out | apply IsS79.alloc | apply IsS79.drewN | apply IsS79.drew | apply IsS79.set_1 | apply IsS79.set_2 | refine IsS79.far ?_ NB577_573.out _) | exact HI577.out)) (by (with_reducible repeat (first | apply Kd.R_alloc | apply Kd.R_drewN | apply Kd.R_drew)); exact HO580.out) (by decide)) hk (fun _ h => h.2)) (fun _ h => h.1)); replace HI577 := Aside0.mk (hi); replace HB := Aside0.mk (hb); (try clear hb hk)) | ((with_reducible refine zf 51 rfl ?_); refine g1 (some 14) Tryz.func51 #[.pointer (some ⟨g577, 0, none⟩), .int .i64 12] ?_; (with_reducible refine (spec_l01Near.calls g577 t574 t586 t587 12 t588 t589 t590 w _ ?side1 ?side2 A5.out).mono ?_); (case side1 => repeat (first | (with_reducible first | exact HI577.out | apply IsS79.alloc | apply IsS79.drewN | apply IsS79.drew | apply IsS79.set_1 | apply IsS79.set_2 | refine IsS79.far ?_ NB577_573.out _) | exact HI577.out)); (case side2 => repeat (first | (with_reducible first | exact HB.out | apply below_alloc | apply pw_below_drewN | apply below_drew1 | refine below_set ?_ (IsS79.ge HI577.out) | refine below_set ?_ GW573.out) | exact HB.out)); rintro e w13 ⟨rfl, hi, hb, hk⟩; refine ⟨_, rfl, ?_⟩; replace BK573 := kb hk BK573 NB573_577; replace HO580 := Aside0.mk (Kd.R_mono (Kd.R_keep (IsS79.apart (show IsS79 w _ g577 t574 t586 t587 from by repeat (first | (with_reducible first | exact HI577.out | apply IsS79.alloc | apply IsS79.drewN | apply IsS79.drew | apply IsS79.set_1 | apply IsS79.set_2 | refine IsS79.far ?_ NB577_573.out _) | exact HI577.out)) (by (with_reducible repeat (first | apply Kd.R_alloc | apply Kd.R_drewN | apply Kd.R_drew)); exact HO580.out) (by decide)) hk (fun _ h => h.2)) (fun _ h => h.1)); replace HI577 := Aside0.mk (hi); replace HB := Aside0.mk (hb); (try clear hb hk); have hnb14 := NB573_577.out; have hnc14 := NB577_573.out; obtain ⟨hcz15_0, hcz15_1, hfz15_0, hfz15_1⟩ := z2 BK573))
 refine bodyPost_ret (results_list (rs := [.tmp 2, .cell 3 27, .tmp 4]) rfl (by simp) (.tmp (.cell gb573 27 #[.int .i64 t584, .int .i64 t585] (0, 0) _ rfl (bp) Tryz.underlying27 rfl (by kernel_rfl) (.tmp .nil)))) rfl ?_
 exact ⟨er, by repeat (first | (with_reducible first | exact HB.out | apply below_alloc | apply pw_below_drewN | apply below_drew1 | refine below_set ?_ (IsS79.ge HI577.out) | refine below_set ?_ GW573.out) | exact HB.out)⟩

/-! ### impl_fitted: function 53 -/
def impl_fitted.f (a0_0 : Int) (a0_1 : Int) (a0_2 : Int) (a1 : Bool) : Option (Int × Int × Int × Int) := if a1 = true then (some (a0_0, a0_1, a0_2, 0)) else (some (0, 0, 0, 3))
set_option maxHeartbeats 8000000 in
set_option maxRecDepth 100000 in
theorem impl_fitted.calls (a0_0 : Int) (a0_1 : Int) (a0_2 : Int) (a1 : Bool) (r1 : Int) (r2 : Int) (r3 : Int) (r4 : Int) (w : World) (h : impl_fitted.f a0_0 a0_1 a0_2 a1 = some (r1, r2, r3, r4)) :
  Calls Tryz.prog 53 #[.agg #[.int .i64 a0_0, .int .i64 a0_1, .int .i64 a0_2], .bool a1] w fun e w' => e = .returned (.tuple #[.agg #[.int .i64 r1, .int .i64 r2, .int .i64 r3], .int .i64 r4]) ∧ Below w.heap.size w w' := by
 have hu35 := Tryz.underlying35
 have HB := Aside0.mk (Below.refl w.heap.size w)
 unfold impl_fitted.f at h
 have H := h
 clear h
 by_cases c3 : a1 = true
 ·subst c3
  rw [if_pos rfl] at H
  simp only [Option.some.injEq, Prod.mk.injEq] at H
  obtain ⟨rfl, rfl, rfl, rfl⟩ := H
  go_enter Tryz.func53, Tryz.ntmps53
  go_wp2_with (first | ((with_reducible refine zg 2 rfl ?_); refine z3 2 35 a0_0 a0_1 a0_2 ?_; intro gb591 hg w4 BK591 hb; have GW591 := sg hg; replace HB := bs hb; clear hb hg) | ((with_reducible refine zg 4 rfl ?_); refine z3 4 35 0 0 0 ?_; intro gb592 hg w5 BK592 hb; have GW592 := sg hg; have NB591_592 := nl hg BK591; replace BK591 := bb BK591 hb; replace HB := bs hb; clear hb hg; obtain ⟨hnb6, hnc6⟩ := zn NB591_592; obtain ⟨hcz7_0, hcz7_1, hcz7_2, hfz7_0, hfz7_1, hfz7_2⟩ := cq3 BK591; obtain ⟨hcz8_0, hcz8_1, hcz8_2, hfz8_0, hfz8_1, hfz8_2⟩ := cq3 BK592))
  refine bodyPost_ret (results_ct rfl _ _ gb592 35 #[.int .i64 a0_0, .int .i64 a0_1, .int .i64 a0_2] (0, 0) _ rfl (bp) Tryz.underlying35 rfl (by kernel_rfl)) rfl ?_
  exact ⟨er, bl⟩
 ·replace c3 := Bool.eq_false_iff.mpr c3
  subst c3
  have H1 : (some (0, 0, 0, 3)) = some (r1, r2, r3, r4) := by rw [if_neg (show ¬ (false = true) by decide)] at H; exact H
  clear H
  have H := H1
  clear H1
  simp only [Option.some.injEq, Prod.mk.injEq] at H
  obtain ⟨rfl, rfl, rfl, rfl⟩ := H
  go_enter Tryz.func53, Tryz.ntmps53
  go_wp2_with (first | ((with_reducible refine zg 2 rfl ?_); refine z3 2 35 a0_0 a0_1 a0_2 ?_; intro gb591 hg w9 BK591 hb; have GW591 := sg hg; replace HB := bs hb; clear hb hg) | ((with_reducible refine zg 4 rfl ?_); refine z3 4 35 0 0 0 ?_; intro gb592 hg w10 BK592 hb; have GW592 := sg hg; have NB591_592 := nl hg BK591; replace BK591 := bb BK591 hb; replace HB := bs hb; clear hb hg; obtain ⟨hnb11, hnc11⟩ := zm NB591_592; obtain ⟨hcz12_0, hcz12_1, hcz12_2, hfz12_0, hfz12_1, hfz12_2⟩ := cq3 BK592))
  refine bodyPost_ret (results_ct rfl _ _ gb592 35 #[.int .i64 0, .int .i64 0, .int .i64 0] (0, 0) _ rfl (bp) Tryz.underlying35 rfl (by kernel_rfl)) rfl ?_
  exact ⟨er, bl⟩

/-! ### impl_valuation: function 71 -/
def impl_valuation.l0 : Nat → Int → Int → Int → Option (Int)
 | 0, _, _, _ => none
 | k + 1, x0, x1, x5 => if x0 = 0 then (none) else (if (Int.tmod x1 x0) = 0 then (impl_valuation.l0 k x0 (wrap64 (Int.tdiv x1 x0)) (wrap64 (x5 + 1))) else (some x5))
def impl_valuation.f (k : Nat) (a0 : Int) (a1 : Int) : Option (Int) := if a1 = 0 then (some 1000) else (impl_valuation.l0 k a0 a1 0)
set_option maxHeartbeats 8000000 in
set_option maxRecDepth 100000 in
theorem impl_valuation.calls (k : Nat) (a0 : Int) (a1 : Int) (r : Int) (w : World) (h : impl_valuation.f k a0 a1 = some r) :
  Calls Tryz.prog 71 #[.int .i64 a0, .int .i64 a1] w fun e w' => e = .returned (.int .i64 r) ∧ Drawn0 w w' := by
 unfold impl_valuation.f at h
 have H := h
 clear h
 replace H := ii H
 rcases H with ⟨c3, H⟩ | ⟨c3, H⟩
 ·obtain ⟨c3b0, c3b1⟩ := zz c3
  clear c3
  obtain rfl := Option.some.inj H
  go_enter Tryz.func71, Tryz.ntmps71
  go_wp2
  go_ret
  exact zx
 ·obtain ⟨c3b0, c3b1⟩ := zy c3
  have H' := Aside0.mk H
  clear H
  go_enter Tryz.func71, Tryz.ntmps71
  go_wp2
  go_loopg [1, 5] k (fun kq v1 v5 w' => ∃ (x1_1 : Int) (x5_1 : Int), v1 = .int .i64 x1_1 ∧ v5 = .int .i64 x5_1 ∧ Aside0 (impl_valuation.l0 kq a0 x1_1 x5_1 = some r) ∧ Aside0 (kq ≤ k) ∧ Drawn0 w w')
  case atStart => exact ⟨(a1), (0), (by first | rfl | (simp; done) | (simp [*]; done)), (by first | rfl | (simp; done) | (simp [*]; done)), H', ⟨Nat.le_refl _⟩, by repeat (first | exact Drawn0.refl _ | apply Drawn0.step)⟩
  case round =>
   clear H'
   obtain ⟨x1_1, x5_1, rfl, rfl, HA, HK1, ⟨m1, rfl⟩⟩ := hrel
   cases gk with
   | zero => exact absurd HA.out (by simp [impl_valuation.l0])
   | succ k1 =>
    have H := HA.out
    clear HA
    simp only [impl_valuation.l0] at H
    replace H := ii H
    rcases H with ⟨c4, H⟩ | ⟨c4, H⟩
    ·exact absurd H (by simp)
    ·obtain ⟨c4b0, c4b1⟩ := zy c4
     replace H := ii H
     rcases H with ⟨c5, H⟩ | ⟨c5, H⟩
     ·obtain ⟨c5b0, c5b1⟩ := zz c5
      clear c5
      have H' := Aside0.mk H
      clear H
      go_wp2
      go_roundg k1
      case measure => have := HK1.out; omega
      case rel => exact ⟨(wrap64 (Int.tdiv x1_1 a0)), (wrap64 (x5_1 + 1)), (by first | rfl | (simp; done) | (simp [*]; done)), (by first | rfl | (simp; done) | (simp [*]; done)), H', ⟨by have := HK1.out; omega⟩, by repeat (first | exact Drawn0.refl _ | apply Drawn0.step)⟩
     ·obtain ⟨c5b0, c5b1⟩ := zy c5
      obtain rfl := Option.some.inj H
      go_wp2
      go_ret
      exact zx

/-! ### bits_Mul64: function 82 -/
def bits_Mul64.f (a0 : Int) (a1 : Int) : Option (Int × Int) := some (IntKind.u64.wrap ((IntKind.u64.wrap ((IntKind.u64.wrap ((a0 / 4294967296) * (a1 / 4294967296))) + ((IntKind.u64.wrap ((IntKind.u64.wrap ((a0 / 4294967296) * (Go.bits .and .u64 a1 4294967295))) + ((IntKind.u64.wrap ((Go.bits .and .u64 a0 4294967295) * (Go.bits .and .u64 a1 4294967295))) / 4294967296))) / 4294967296))) + ((IntKind.u64.wrap ((Go.bits .and .u64 (IntKind.u64.wrap ((IntKind.u64.wrap ((a0 / 4294967296) * (Go.bits .and .u64 a1 4294967295))) + ((IntKind.u64.wrap ((Go.bits .and .u64 a0 4294967295) * (Go.bits .and .u64 a1 4294967295))) / 4294967296))) 4294967295) + (IntKind.u64.wrap ((Go.bits .and .u64 a0 4294967295) * (a1 / 4294967296))))) / 4294967296)), IntKind.u64.wrap (a0 * a1))
set_option maxHeartbeats 8000000 in
set_option maxRecDepth 100000 in
theorem bits_Mul64.calls (a0 : Int) (a1 : Int) (r1 : Int) (r2 : Int) (w : World) (h : bits_Mul64.f a0 a1 = some (r1, r2)) :
  Calls Tryz.prog 82 #[.int .u64 a0, .int .u64 a1] w fun e w' => e = .returned (.tuple #[.int .u64 r1, .int .u64 r2]) ∧ Drawn0 w w' := by
 unfold bits_Mul64.f at h
 have H := h
 clear h
 simp only [Option.some.injEq, Prod.mk.injEq] at H
 obtain ⟨rfl, rfl⟩ := H
 go_enter Tryz.func82, Tryz.ntmps82
 go_wp2
 go_ret2
 exact zx

/-! ### impl_mod: function 83 -/
def impl_mod.f (a0 : Int) (a1 : Int) : Option (Int) := if a1 = 0 then (none) else (some (Int.tmod (wrap64 ((Int.tmod a0 a1) + a1)) a1))
set_option maxHeartbeats 8000000 in
set_option maxRecDepth 100000 in
theorem impl_mod.calls (a0 : Int) (a1 : Int) (r : Int) (w : World) (h : impl_mod.f a0 a1 = some r) :
  Calls Tryz.prog 83 #[.int .i64 a0, .int .i64 a1] w fun e w' => e = .returned (.int .i64 r) ∧ Drawn0 w w' := by
 unfold impl_mod.f at h
 have H := h
 clear h
 replace H := ii H
 rcases H with ⟨c3, H⟩ | ⟨c3, H⟩
 ·exact absurd H (by simp)
 ·obtain ⟨c3b0, c3b1⟩ := zy c3
  obtain rfl := Option.some.inj H
  go_enter Tryz.func83, Tryz.ntmps83
  go_wp2
  go_ret
  exact zx

/-! ### bits_LeadingZeros64: function 91 -/
def bits_LeadingZeros64.f (k : Nat) (a0 : Int) : Option (Int) := (bits_Len64.f k a0).bind fun t593 => (some (wrap64 (64 - t593)))
set_option maxHeartbeats 8000000 in
set_option maxRecDepth 100000 in
theorem bits_LeadingZeros64.calls (k : Nat) (a0 : Int) (r : Int) (w : World) (h : bits_LeadingZeros64.f k a0 = some r) :
  Calls Tryz.prog 91 #[.int .u64 a0] w fun e w' => e = .returned (.int .i64 r) ∧ Drawn0 w w' := by
 unfold bits_LeadingZeros64.f at h
 have H := h
 clear h
 replace H := zi H
 obtain ⟨t593, A2, H⟩ := H
 try dsimp only at H
 obtain rfl := Option.some.inj H
 go_enter Tryz.func91, Tryz.ntmps91
 go_wp2_with (first | ((with_reducible refine zf 98 rfl ?_); refine g1 (some 4) Tryz.func98 #[.int .u64 a0] ?_; (with_reducible refine (bits_Len64.calls k a0 t593 _ A2.out).mono ?_); rintro e w' ⟨rfl, ⟨nd, rfl⟩⟩; refine ⟨_, rfl, ?_⟩))
 go_ret
 exact zx

end Go.Proofs.YtgdkmchphpjifaaGreatDoor.PFnEnds

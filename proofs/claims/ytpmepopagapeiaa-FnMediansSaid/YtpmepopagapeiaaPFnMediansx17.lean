-- Printed by the kit's print and repaired by a program of this session.
import Derived.Test.YtpmepopagapeiaaPFnMediansx0
import Derived.Test.YtpmepopagapeiaaPFnMediansx2
import Derived.Test.YtpmepopagapeiaaPFnMediansx9
import Derived.Test.YtpmepopagapeiaaPFnMediansx11
import Derived.Test.YtpmepopagapeiaaPFnMediansx16
namespace Go.Proofs.Ytpmepopagapeiaa.PFnMedians
open Go.RowKit Go.Proofs.YtpmepopagapeiaaW.PrintWords Go.Proofs.YtpmepopagapeiaaW.PrintLast Go.Proofs.YtpmepopagapeiaaW.PrintMore
attribute [local go_sem] max2_int min2_int max_two min_two max_three min_three max_four min_four
set_option linter.unusedVariables false
set_option linter.unusedSimpArgs false

/-! ### spec_l01DrawEnd: function 121 -/
def spec_l01DrawEnd.j0 : Nat → Int → Bool → List Int → Int → Int → Option (Int × Int × Int × Int)
 | 0, _, _, _, _, _ => none
 | k + 1, x8, x9, x1000, x1001, x1002 => if x9 = true then (some (1, 0, x1001, x1002)) else (if x8 = 2 then ((spec_l01Pick.f x1000 x1001 x1002 (([2, 0, 1000001] : List Int))).bind fun bt614 => ((spec_l01Pick.f x1000 bt614.2.1 bt614.2.2 (([0, 4, (-1)] : List Int))).bind fun bt620 => (some (bt614.1, bt620.1, bt620.2.1, bt620.2.2)))) else ((spec_l01Next.f x1000 x1001 x1002 20).bind fun bt623 => ((spec_l01Next.f x1000 bt623.2.1 bt623.2.2 200).bind fun bt626 => ((spec_l01Next.f x1000 bt626.2.1 bt626.2.2 2000001).bind fun bt629 => ((spec_l01Pick.f x1000 bt629.2.1 bt629.2.2 (([wrap64 (bt623.1 - 10), wrap64 (bt626.1 - 100), wrap64 (bt629.1 - 1000000)] : List Int))).bind fun bt635 => ((spec_l01Next.f x1000 bt635.2.1 bt635.2.2 20).bind fun bt638 => ((spec_l01Next.f x1000 bt638.2.1 bt638.2.2 8).bind fun bt641 => ((spec_l01Power.f k 2 bt641.1).bind fun t644 => ((spec_l01Next.f x1000 bt641.2.1 bt641.2.2 6).bind fun bt645 => ((spec_l01Power.f k 3 bt645.1).bind fun t648 => ((spec_l01Next.f x1000 bt645.2.1 bt645.2.2 1000000).bind fun bt649 => ((spec_l01Pick.f x1000 bt649.2.1 bt649.2.2 (([1, 1, wrap64 (1 + bt638.1), t644, t648, wrap64 (1 + bt649.1)] : List Int))).bind fun bt655 => ((spec_l01EndOf.f k bt635.1 bt655.1).bind fun bt658 => (some (bt658.1, bt658.2.1, bt655.2.1, bt655.2.2)))))))))))))))
def spec_l01DrawEnd.f (k : Nat) (s0_0 : List Int) (s0_1 : Int) (s0_2 : Int) : Option (Int × Int × Int × Int) := (spec_l01Next.f s0_0 s0_1 s0_2 30).bind fun bt608 => (if bt608.1 = 0 then (spec_l01DrawEnd.j0 k bt608.1 (bt608.1 == 0) s0_0 bt608.2.1 bt608.2.2) else (spec_l01DrawEnd.j0 k bt608.1 (bt608.1 == 1) s0_0 bt608.2.1 bt608.2.2))
set_option maxHeartbeats 8000000 in
set_option maxRecDepth 100000 in
theorem spec_l01DrawEnd.calls (k : Nat) (g : Nat) (s0_0 : List Int) (s0_1 : Int) (s0_2 : Int) (r1 : Int) (r2 : Int) (r3 : Int) (r4 : Int) (w0 w : World) (hI : IsS127 w0 w g s0_0 s0_1 s0_2) (hB : Below w0.heap.size w0 w) (h : spec_l01DrawEnd.f k s0_0 s0_1 s0_2 = some (r1, r2, r3, r4)) :
  Calls Try.prog 121 #[.pointer (some ⟨g, 0, none⟩)] w fun e w' => e = .returned (.agg #[.int .i64 r1, .int .i64 r2]) ∧ IsS127 w0 w' g s0_0 r3 r4 ∧ Below w0.heap.size w0 w' ∧ KeepBut w w' g none := by
 have hu63 := Try.underlying63
 have HI0 := Aside0.mk hI
 have HK := Aside0.mk (KeepBut.refl w g none)
 have HL := Aside0.mk hB.size
 clear hI
 have HW0 := Aside0.mk hB.size
 have HB := Aside0.mk hB
 clear hB
 unfold spec_l01DrawEnd.f at h
 have H := h
 clear h
 replace H := zi H
 obtain ⟨⟨t608, t609, t610⟩, A2, H⟩ := H
 try dsimp only at H
 have HC3 := Aside0.mk H
 clear H
 go_enter Try.func121, Try.ntmps121
 go_upto_if 9 with (first | ((with_reducible refine zg 2 rfl ?_); refine zb 2 63 #[.int .i64 0, .int .i64 0] ?_; intro gb607 hg w4 BK607 hb; have GW607 := Aside0.mk ((by rw [hg]; exact (keep_size (w := w) (g := g) (row := none) (kl)) : w.heap.size ≤ gb607)); have GE607 := Aside0.mk ((Nat.le_trans HW0.out (by rw [hg]; exact (keep_size (w := w) (g := g) (row := none) (kl)) : w.heap.size ≤ gb607) : w0.heap.size ≤ gb607)); have NB0_607 := Aside0.mk ((by rw [hg]; exact Nat.ne_of_lt (IsS127.lt (IsS127.a : IsS127 w0 _ g s0_0 s0_1 s0_2)) : g ≠ gb607)); have NB607_0 := Aside0.mk ((by rw [hg]; exact Nat.ne_of_gt (IsS127.lt (IsS127.a : IsS127 w0 _ g s0_0 s0_1 s0_2)) : gb607 ≠ g)); replace HK := Aside0.mk (KeepBut.trans (kl) (KeepBut.of_below hb g none) (.inl rfl)); replace HB := Aside0.mk (below_step IsS127.b hb); replace HI0 := Aside0.mk (IsS127.below (IsS127.a) hb); clear hb hg) | ((with_reducible refine zf 101 rfl ?_); refine g1 (some 8) Try.func101 #[.pointer (some ⟨g, 0, none⟩), .int .i64 30] ?_; (with_reducible refine (spec_l01Next.calls g s0_0 s0_1 s0_2 30 t608 t609 t610 w0 _ ?side1 ?side2 A2.out).mono ?_); (case side1 => exact IsS127.a); (case side2 => exact IsS127.b); rintro e w5 ⟨rfl, hi, hb, hk⟩; refine ⟨_, rfl, ?_⟩; replace BK607 := kb hk BK607 NB607_0; replace HK := Aside0.mk (KeepBut.trans (kl) hk (.inl rfl)); replace HI0 := Aside0.mk (hi); replace HB := Aside0.mk (hb); (try clear hb hk)))
 (try simp only [Act.put, zq, zr, zt])
 go_cut [9] (fun v9 wc => ∃ (kq : Nat) (x9_2 : Bool), v9 = .bool x9_2 ∧ Aside0 (spec_l01DrawEnd.j0 kq t608 x9_2 s0_0 t609 t610 = some (r1, r2, r3, r4)) ∧ Aside0 (kq ≤ k) ∧ Aside0 (wc.heap[gb607]? = some (.cells #[.int .i64 0, .int .i64 0] 63 (0, 0))) ∧ Aside0 (IsS127 w0 wc g s0_0 t609 t610) ∧ Aside0 (KeepBut w wc g none) ∧ Aside0 (Below w0.heap.size w0 wc))
 case first =>
  have H := HC3.out
  clear HC3
  replace H := ii H
  rcases H with ⟨c6, H⟩ | ⟨c6, H⟩
  ·obtain ⟨c6b0, c6b1⟩ := zz c6
   clear c6
   (first | rw [c6b0] | (simp only [i64_w, i32_w]; rw [c6b0]) | skip)
   have H' := Aside0.mk H
   clear H
   go_wp2
   go_meet
   case rel => exact ⟨_, ((t608 == 0)), (by first | rfl | (simp; done) | (simp [*]; done)), H', ⟨by first | omega | exact Nat.le_refl _⟩, ⟨be BK607⟩, ⟨IsS127.a⟩, ⟨kl⟩, ⟨IsS127.b⟩⟩
  ·obtain ⟨c6b0, c6b1⟩ := zy c6
   (first | rw [c6b0] | (simp only [i64_w, i32_w]; rw [c6b0]) | skip)
   have H' := Aside0.mk H
   clear H
   go_wp2
   go_meet
   case rel => exact ⟨_, ((t608 == 1)), (by first | rfl | (simp; done) | (simp [*]; done)), H', ⟨by first | omega | exact Nat.le_refl _⟩, ⟨be BK607⟩, ⟨IsS127.a⟩, ⟨kl⟩, ⟨IsS127.b⟩⟩
 case rest =>
  clear HC3
  obtain ⟨kq, x9_2, rfl, HA, HJ2, BK607, HI0, HK, HB⟩ := hcut
  cases kq with
  | zero => exact absurd HA.out (by simp [spec_l01DrawEnd.j0])
  | succ kj2 =>
   have H := HA.out
   clear HA
   simp only [spec_l01DrawEnd.j0] at H
   by_cases c7 : x9_2 = true
   ·subst c7
    rw [if_pos rfl] at H
    simp only [Option.some.injEq, Prod.mk.injEq] at H
    obtain ⟨rfl, rfl, rfl, rfl⟩ := H
    have hnb8 := NB607_0.out
    have hnc8 := NB0_607.out
    obtain ⟨hcz9_0, hcz9_1, hfz9_0, hfz9_1⟩ := z2 BK607
    go_wp2
    refine bodyPost_ret (results_cell_row rfl _ _ gb607 63 #[.int .i64 1, .int .i64 0] (0, 0) _ rfl (bp) Try.underlying63 rfl (by kernel_rfl)) rfl ?_
    exact ⟨er, IsS127.a, IsS127.b, kl⟩
   ·replace c7 := Bool.eq_false_iff.mpr c7
    subst c7
    have H1 : (if t608 = 2 then ((spec_l01Pick.f s0_0 t609 t610 (([2, 0, 1000001] : List Int))).bind fun bt614 => ((spec_l01Pick.f s0_0 bt614.2.1 bt614.2.2 (([0, 4, (-1)] : List Int))).bind fun bt620 => (some (bt614.1, bt620.1, bt620.2.1, bt620.2.2)))) else ((spec_l01Next.f s0_0 t609 t610 20).bind fun bt623 => ((spec_l01Next.f s0_0 bt623.2.1 bt623.2.2 200).bind fun bt626 => ((spec_l01Next.f s0_0 bt626.2.1 bt626.2.2 2000001).bind fun bt629 => ((spec_l01Pick.f s0_0 bt629.2.1 bt629.2.2 (([wrap64 (bt623.1 - 10), wrap64 (bt626.1 - 100), wrap64 (bt629.1 - 1000000)] : List Int))).bind fun bt635 => ((spec_l01Next.f s0_0 bt635.2.1 bt635.2.2 20).bind fun bt638 => ((spec_l01Next.f s0_0 bt638.2.1 bt638.2.2 8).bind fun bt641 => ((spec_l01Power.f kj2 2 bt641.1).bind fun t644 => ((spec_l01Next.f s0_0 bt641.2.1 bt641.2.2 6).bind fun bt645 => ((spec_l01Power.f kj2 3 bt645.1).bind fun t648 => ((spec_l01Next.f s0_0 bt645.2.1 bt645.2.2 1000000).bind fun bt649 => ((spec_l01Pick.f s0_0 bt649.2.1 bt649.2.2 (([1, 1, wrap64 (1 + bt638.1), t644, t648, wrap64 (1 + bt649.1)] : List Int))).bind fun bt655 => ((spec_l01EndOf.f kj2 bt635.1 bt655.1).bind fun bt658 => (some (bt658.1, bt658.2.1, bt655.2.1, bt655.2.2))))))))))))))) = some (r1, r2, r3, r4) := by rw [if_neg (show ¬ (false = true) by decide)] at H; exact H
    clear H
    have H := H1
    clear H1
    replace H := ii H
    rcases H with ⟨c10, H⟩ | ⟨c10, H⟩
    ·obtain ⟨c10b0, c10b1⟩ := zz c10
     clear c10
     obtain ⟨y611, hy611⟩ : ∃ y_ : List Int, y_ = (([2, 0, 1000001] : List Int)) := ⟨_, rfl⟩
     replace H : ((spec_l01Pick.f s0_0 t609 t610 y611).bind fun bt614 => ((spec_l01Pick.f s0_0 bt614.2.1 bt614.2.2 (([0, 4, (-1)] : List Int))).bind fun bt620 => (some (bt614.1, bt620.1, bt620.2.1, bt620.2.2)))) = some (r1, r2, r3, r4) := by first | exact hy611 ▸ H | exact H
     have Ny611 := Aside0.mk hy611
     clear hy611
     replace H := zi H
     obtain ⟨⟨t614, t615, t616⟩, A11, H⟩ := H
     try dsimp only at H
     obtain ⟨y617, hy617⟩ : ∃ y_ : List Int, y_ = (([0, 4, (-1)] : List Int)) := ⟨_, rfl⟩
     replace H : ((spec_l01Pick.f s0_0 t615 t616 y617).bind fun bt620 => (some (t614, bt620.1, bt620.2.1, bt620.2.2))) = some (r1, r2, r3, r4) := by first | exact hy617 ▸ H | exact H
     have Ny617 := Aside0.mk hy617
     clear hy617
     replace H := zi H
     obtain ⟨⟨t620, t621, t622⟩, A12, H⟩ := H
     try dsimp only at H
     simp only [Option.some.injEq, Prod.mk.injEq] at H
     obtain ⟨rfl, rfl, rfl, rfl⟩ := H
     go_wp2_with (first | ((with_reducible refine zg 16 rfl ?_); refine Kd.R_lit (Kd.int .i64) _ 2 ?hg (N := 16) ?hd (xs := ([2, 0, 1000001] : List Int)) (inner := [.int .i64 2, .int .i64 0, .int .i64 1000001]) (ok := fun _ => True) (okp := fun _ => True) ?hr ?hp (fun _ hk => hk) trivial (Below.refl _ _) (Nat.le_refl _) (by simp) ?_; (case hd => rfl); (case hg => rfl); (case hr => first | (go_simp; done) | (go_simp; rfl)); (case hp => exact (Reps.one (show Kd.M (Kd.int .i64) _ _ _ 2 [.int .i64 2] from rfl) (Reps.one (show Kd.M (Kd.int .i64) _ _ _ 0 [.int .i64 0] from rfl) (Reps.one (show Kd.M (Kd.int .i64) _ _ _ 1000001 [.int .i64 1000001] from rfl) (Reps.none _ _))))); intro v612 w13 ho14 hb hg_ hnew_; clear hg_ hnew_; (first | rw [← Ny611.out] at ho14 | (simp only [Int.reduceToNat] at ho14; rw [← Ny611.out] at ho14)); have HO613 := Aside0.mk (Kd.R_lower ho14 (keep_size (w := w) (g := g) (row := none) (kl))); replace BK607 := bb BK607 hb; replace HK := Aside0.mk (KeepBut.trans (kl) (KeepBut.of_below hb g none) (.inl rfl)); replace HB := Aside0.mk (below_step IsS127.b hb); replace HI0 := Aside0.mk (IsS127.below (IsS127.a) hb); clear hb ho14; obtain ⟨Ao15, co15, eo15⟩ := Kd.R_slice HO613.out; subst eo15) | ((with_reducible refine zf 100 rfl ?_); refine g1 (some 17) Try.func100 #[.pointer (some ⟨g, 0, none⟩), .slice Ao15 y611.length co15] ?_; (with_reducible refine (spec_l01Pick.calls g s0_0 t609 t610 _ _ y611 t614 t615 t616 w0 _ ?side1 ?side2 ?side3 ?side4 ?side5 A11.out).mono ?_); (case side1 => exact IsS127.a); (case side2 => exact IsS127.b); (case side3 => repeat (first | exact (Kd.R_reads' HO613.out).2.2 | (with_reducible refine Kd.C_alloc ?_ _) | (with_reducible refine Kd.C_drewN ?_ _) | (with_reducible refine Kd.C_drew ?_))); (case side4 => exact (Kd.R_reads' HO613.out).2.1); (case side5 => exact far_slice (IsS127.own_ne HI0.out HO613.out (by decide))); rintro e w16 ⟨rfl, hi, hb, hk⟩; refine ⟨_, rfl, ?_⟩; replace BK607 := kb hk BK607 NB607_0; replace HO613 := Aside0.mk (Kd.R_mono (Kd.R_keep (IsS127.apart (IsS127.a : IsS127 w0 _ g s0_0 t609 t610) (by (with_reducible repeat (first | apply Kd.R_alloc | apply Kd.R_drewN | apply Kd.R_drew)); exact HO613.out) (by decide)) hk (fun _ h => h.2)) (fun _ h => h.1)); replace HK := Aside0.mk (KeepBut.trans (kl) hk (.inl rfl)); replace HI0 := Aside0.mk (hi); replace HB := Aside0.mk (hb); (try clear hb hk)) | ((with_reducible refine zg 19 rfl ?_); refine Kd.R_lit (Kd.int .i64) _ 2 ?hg (N := 19) ?hd (xs := ([0, 4, (-1)] : List Int)) (inner := [.int .i64 0, .int .i64 4, .int .i64 (-1)]) (ok := fun _ => True) (okp := fun _ => True) ?hr ?hp (fun _ hk => hk) trivial (Below.refl _ _) (Nat.le_refl _) (by simp) ?_; (case hd => rfl); (case hg => rfl); (case hr => first | (go_simp; done) | (go_simp; rfl)); (case hp => exact (Reps.one (show Kd.M (Kd.int .i64) _ _ _ 0 [.int .i64 0] from rfl) (Reps.one (show Kd.M (Kd.int .i64) _ _ _ 4 [.int .i64 4] from rfl) (Reps.one (show Kd.M (Kd.int .i64) _ _ _ (-1) [.int .i64 (-1)] from rfl) (Reps.none _ _))))); intro v618 w17 ho18 hb hg_ hnew_; clear hg_ hnew_; (first | rw [← Ny617.out] at ho18 | (simp only [Int.reduceToNat] at ho18; rw [← Ny617.out] at ho18)); have HO619 := Aside0.mk (Kd.R_lower (Kd.R_new' ho18 (Kd.R_lt (by (with_reducible repeat (first | apply Kd.R_alloc | apply Kd.R_drewN | apply Kd.R_drew)); exact HO613.out))) (keep_size (w := w) (g := g) (row := none) (kl))); replace HO613 := Aside0.mk (Kd.R_elder' (by (with_reducible repeat (first | apply Kd.R_alloc | apply Kd.R_drewN | apply Kd.R_drew)); exact HO613.out) (Kd.R_base ho18) hb); replace BK607 := bb BK607 hb; replace HK := Aside0.mk (KeepBut.trans (kl) (KeepBut.of_below hb g none) (.inl rfl)); replace HB := Aside0.mk (below_step IsS127.b hb); replace HI0 := Aside0.mk (IsS127.below (IsS127.a) hb); clear hb ho18; obtain ⟨Ao19, co19, eo19⟩ := Kd.R_slice HO619.out; subst eo19) | ((with_reducible refine zf 100 rfl ?_); refine g1 (some 20) Try.func100 #[.pointer (some ⟨g, 0, none⟩), .slice Ao19 y617.length co19] ?_; (with_reducible refine (spec_l01Pick.calls g s0_0 t615 t616 _ _ y617 t620 t621 t622 w0 _ ?side1 ?side2 ?side3 ?side4 ?side5 A12.out).mono ?_); (case side1 => exact IsS127.a); (case side2 => exact IsS127.b); (case side3 => repeat (first | exact (Kd.R_reads' HO619.out).2.2 | (with_reducible refine Kd.C_alloc ?_ _) | (with_reducible refine Kd.C_drewN ?_ _) | (with_reducible refine Kd.C_drew ?_))); (case side4 => exact (Kd.R_reads' HO619.out).2.1); (case side5 => exact far_slice (IsS127.own_ne HI0.out HO619.out (by decide))); rintro e w20 ⟨rfl, hi, hb, hk⟩; refine ⟨_, rfl, ?_⟩; replace BK607 := kb hk BK607 NB607_0; replace HO613 := Aside0.mk (Kd.R_mono (Kd.R_keep (IsS127.apart (IsS127.a : IsS127 w0 _ g s0_0 t615 t616) (by (with_reducible repeat (first | apply Kd.R_alloc | apply Kd.R_drewN | apply Kd.R_drew)); exact HO613.out) (by decide)) hk (fun _ h => h.2)) (fun _ h => h.1)); replace HO619 := Aside0.mk (Kd.R_mono (Kd.R_keep (IsS127.apart (IsS127.a : IsS127 w0 _ g s0_0 t615 t616) (by (with_reducible repeat (first | apply Kd.R_alloc | apply Kd.R_drewN | apply Kd.R_drew)); exact HO619.out) (by decide)) hk (fun _ h => h.2)) (fun _ h => h.1)); replace HK := Aside0.mk (KeepBut.trans (kl) hk (.inl rfl)); replace HI0 := Aside0.mk (hi); replace HB := Aside0.mk (hb); (try clear hb hk); have hnb21 := NB607_0.out; have hnc21 := NB0_607.out; obtain ⟨hcz22_0, hcz22_1, hfz22_0, hfz22_1⟩ := z2 BK607))
     refine bodyPost_ret (results_cell_row rfl _ _ gb607 63 #[.int .i64 t614, .int .i64 t620] (0, 0) _ rfl (bp) Try.underlying63 rfl (by kernel_rfl)) rfl ?_
     exact ⟨er, IsS127.a, IsS127.b, kl⟩
    ·obtain ⟨c10b0, c10b1⟩ := zy c10
     replace H := zi H
     obtain ⟨⟨t623, t624, t625⟩, A23, H⟩ := H
     try dsimp only at H
     replace H := zi H
     obtain ⟨⟨t626, t627, t628⟩, A24, H⟩ := H
     try dsimp only at H
     replace H := zi H
     obtain ⟨⟨t629, t630, t631⟩, A25, H⟩ := H
     try dsimp only at H
     obtain ⟨y632, hy632⟩ : ∃ y_ : List Int, y_ = (([wrap64 (t623 - 10), wrap64 (t626 - 100), wrap64 (t629 - 1000000)] : List Int)) := ⟨_, rfl⟩
     replace H : ((spec_l01Pick.f s0_0 t630 t631 y632).bind fun bt635 => ((spec_l01Next.f s0_0 bt635.2.1 bt635.2.2 20).bind fun bt638 => ((spec_l01Next.f s0_0 bt638.2.1 bt638.2.2 8).bind fun bt641 => ((spec_l01Power.f kj2 2 bt641.1).bind fun t644 => ((spec_l01Next.f s0_0 bt641.2.1 bt641.2.2 6).bind fun bt645 => ((spec_l01Power.f kj2 3 bt645.1).bind fun t648 => ((spec_l01Next.f s0_0 bt645.2.1 bt645.2.2 1000000).bind fun bt649 => ((spec_l01Pick.f s0_0 bt649.2.1 bt649.2.2 (([1, 1, wrap64 (1 + bt638.1), t644, t648, wrap64 (1 + bt649.1)] : List Int))).bind fun bt655 => ((spec_l01EndOf.f kj2 bt635.1 bt655.1).bind fun bt658 => (some (bt658.1, bt658.2.1, bt655.2.1, bt655.2.2))))))))))) = some (r1, r2, r3, r4) := by first | exact hy632 ▸ H | exact H
     have Ny632 := Aside0.mk hy632
     clear hy632
     replace H := zi H
     obtain ⟨⟨t635, t636, t637⟩, A26, H⟩ := H
     try dsimp only at H
     replace H := zi H
     obtain ⟨⟨t638, t639, t640⟩, A27, H⟩ := H
     try dsimp only at H
     replace H := zi H
     obtain ⟨⟨t641, t642, t643⟩, A28, H⟩ := H
     try dsimp only at H
     replace H := zi H
     obtain ⟨t644, A29, H⟩ := H
     try dsimp only at H
     replace H := zi H
     obtain ⟨⟨t645, t646, t647⟩, A30, H⟩ := H
     try dsimp only at H
     replace H := zi H
     obtain ⟨t648, A31, H⟩ := H
     try dsimp only at H
     replace H := zi H
     obtain ⟨⟨t649, t650, t651⟩, A32, H⟩ := H
     try dsimp only at H
     obtain ⟨y652, hy652⟩ : ∃ y_ : List Int, y_ = (([1, 1, wrap64 (1 + t638), t644, t648, wrap64 (1 + t649)] : List Int)) := ⟨_, rfl⟩
     replace H : ((spec_l01Pick.f s0_0 t650 t651 y652).bind fun bt655 => ((spec_l01EndOf.f kj2 t635 bt655.1).bind fun bt658 => (some (bt658.1, bt658.2.1, bt655.2.1, bt655.2.2)))) = some (r1, r2, r3, r4) := by first | exact hy652 ▸ H | exact H
     have Ny652 := Aside0.mk hy652
     clear hy652
     replace H := zi H
     obtain ⟨⟨t655, t656, t657⟩, A33, H⟩ := H
     try dsimp only at H
     replace H := zi H
     obtain ⟨⟨t658, t659, t660⟩, A34, H⟩ := H
     try dsimp only at H
     simp only [Option.some.injEq, Prod.mk.injEq] at H
     obtain ⟨rfl, rfl, rfl, rfl⟩ := H
     go_wp2_with (first | ((with_reducible refine zf 101 rfl ?_); refine g1 (some 24) Try.func101 #[.pointer (some ⟨g, 0, none⟩), .int .i64 20] ?_; (with_reducible refine (spec_l01Next.calls g s0_0 t609 t610 20 t623 t624 t625 w0 _ ?side1 ?side2 A23.out).mono ?_); (case side1 => exact IsS127.a); (case side2 => exact IsS127.b); rintro e w35 ⟨rfl, hi, hb, hk⟩; refine ⟨_, rfl, ?_⟩; replace BK607 := kb hk BK607 NB607_0; replace HK := Aside0.mk (KeepBut.trans (kl) hk (.inl rfl)); replace HI0 := Aside0.mk (hi); replace HB := Aside0.mk (hb); (try clear hb hk)) | ((with_reducible refine zf 101 rfl ?_); refine g1 (some 27) Try.func101 #[.pointer (some ⟨g, 0, none⟩), .int .i64 200] ?_; (with_reducible refine (spec_l01Next.calls g s0_0 t624 t625 200 t626 t627 t628 w0 _ ?side1 ?side2 A24.out).mono ?_); (case side1 => exact IsS127.a); (case side2 => exact IsS127.b); rintro e w36 ⟨rfl, hi, hb, hk⟩; refine ⟨_, rfl, ?_⟩; replace BK607 := kb hk BK607 NB607_0; replace HK := Aside0.mk (KeepBut.trans (kl) hk (.inl rfl)); replace HI0 := Aside0.mk (hi); replace HB := Aside0.mk (hb); (try clear hb hk)) | ((with_reducible refine zf 101 rfl ?_); refine g1 (some 30) Try.func101 #[.pointer (some ⟨g, 0, none⟩), .int .i64 2000001] ?_; (with_reducible refine (spec_l01Next.calls g s0_0 t627 t628 2000001 t629 t630 t631 w0 _ ?side1 ?side2 A25.out).mono ?_); (case side1 => exact IsS127.a); (case side2 => exact IsS127.b); rintro e w37 ⟨rfl, hi, hb, hk⟩; refine ⟨_, rfl, ?_⟩; replace BK607 := kb hk BK607 NB607_0; replace HK := Aside0.mk (KeepBut.trans (kl) hk (.inl rfl)); replace HI0 := Aside0.mk (hi); replace HB := Aside0.mk (hb); (try clear hb hk)) | ((with_reducible refine zg 32 rfl ?_); refine Kd.R_lit (Kd.int .i64) _ 2 ?hg (N := 32) ?hd (xs := ([wrap64 (t623 - 10), wrap64 (t626 - 100), wrap64 (t629 - 1000000)] : List Int)) (inner := [.int .i64 (wrap64 (t623 - 10)), .int .i64 (wrap64 (t626 - 100)), .int .i64 (wrap64 (t629 - 1000000))]) (ok := fun _ => True) (okp := fun _ => True) ?hr ?hp (fun _ hk => hk) trivial (Below.refl _ _) (Nat.le_refl _) (by simp) ?_; (case hd => rfl); (case hg => rfl); (case hr => first | (go_simp; done) | (go_simp; rfl)); (case hp => exact (Reps.one (show Kd.M (Kd.int .i64) _ _ _ (wrap64 (t623 - 10)) [.int .i64 (wrap64 (t623 - 10))] from rfl) (Reps.one (show Kd.M (Kd.int .i64) _ _ _ (wrap64 (t626 - 100)) [.int .i64 (wrap64 (t626 - 100))] from rfl) (Reps.one (show Kd.M (Kd.int .i64) _ _ _ (wrap64 (t629 - 1000000)) [.int .i64 (wrap64 (t629 - 1000000))] from rfl) (Reps.none _ _))))); intro v633 w38 ho39 hb hg_ hnew_; clear hg_ hnew_; (first | rw [← Ny632.out] at ho39 | (simp only [Int.reduceToNat] at ho39; rw [← Ny632.out] at ho39)); have HO634 := Aside0.mk (Kd.R_lower ho39 (keep_size (w := w) (g := g) (row := none) (kl))); replace BK607 := bb BK607 hb; replace HK := Aside0.mk (KeepBut.trans (kl) (KeepBut.of_below hb g none) (.inl rfl)); replace HB := Aside0.mk (below_step IsS127.b hb); replace HI0 := Aside0.mk (IsS127.below (IsS127.a) hb); clear hb ho39; obtain ⟨Ao40, co40, eo40⟩ := Kd.R_slice HO634.out; subst eo40) | ((with_reducible refine zf 100 rfl ?_); refine g1 (some 33) Try.func100 #[.pointer (some ⟨g, 0, none⟩), .slice Ao40 y632.length co40] ?_; (with_reducible refine (spec_l01Pick.calls g s0_0 t630 t631 _ _ y632 t635 t636 t637 w0 _ ?side1 ?side2 ?side3 ?side4 ?side5 A26.out).mono ?_); (case side1 => exact IsS127.a); (case side2 => exact IsS127.b); (case side3 => repeat (first | exact (Kd.R_reads' HO634.out).2.2 | (with_reducible refine Kd.C_alloc ?_ _) | (with_reducible refine Kd.C_drewN ?_ _) | (with_reducible refine Kd.C_drew ?_))); (case side4 => exact (Kd.R_reads' HO634.out).2.1); (case side5 => exact far_slice (IsS127.own_ne HI0.out HO634.out (by decide))); rintro e w41 ⟨rfl, hi, hb, hk⟩; refine ⟨_, rfl, ?_⟩; replace BK607 := kb hk BK607 NB607_0; replace HO634 := Aside0.mk (Kd.R_mono (Kd.R_keep (IsS127.apart (IsS127.a : IsS127 w0 _ g s0_0 t630 t631) (by (with_reducible repeat (first | apply Kd.R_alloc | apply Kd.R_drewN | apply Kd.R_drew)); exact HO634.out) (by decide)) hk (fun _ h => h.2)) (fun _ h => h.1)); replace HK := Aside0.mk (KeepBut.trans (kl) hk (.inl rfl)); replace HI0 := Aside0.mk (hi); replace HB := Aside0.mk (hb); (try clear hb hk)) | ((with_reducible refine zf 101 rfl ?_); refine g1 (some 36) Try.func101 #[.pointer (some ⟨g, 0, none⟩), .int .i64 20] ?_; (with_reducible refine (spec_l01Next.calls g s0_0 t636 t637 20 t638 t639 t640 w0 _ ?side1 ?side2 A27.out).mono ?_); (case side1 => exact IsS127.a); (case side2 => exact IsS127.b); rintro e w42 ⟨rfl, hi, hb, hk⟩; refine ⟨_, rfl, ?_⟩; replace BK607 := kb hk BK607 NB607_0; replace HO634 := Aside0.mk (Kd.R_mono (Kd.R_keep (IsS127.apart (IsS127.a : IsS127 w0 _ g s0_0 t636 t637) (by (with_reducible repeat (first | apply Kd.R_alloc | apply Kd.R_drewN | apply Kd.R_drew)); exact HO634.out) (by decide)) hk (fun _ h => h.2)) (fun _ h => h.1)); replace HK := Aside0.mk (KeepBut.trans (kl) hk (.inl rfl)); replace HI0 := Aside0.mk (hi); replace HB := Aside0.mk (hb); (try clear hb hk)) | ((with_reducible refine zf 101 rfl ?_); refine g1 (some 39) Try.func101 #[.pointer (some ⟨g, 0, none⟩), .int .i64 8] ?_; (with_reducible refine (spec_l01Next.calls g s0_0 t639 t640 8 t641 t642 t643 w0 _ ?side1 ?side2 A28.out).mono ?_); (case side1 => exact IsS127.a); (case side2 => exact IsS127.b); rintro e w43 ⟨rfl, hi, hb, hk⟩; refine ⟨_, rfl, ?_⟩; replace BK607 := kb hk BK607 NB607_0; replace HO634 := Aside0.mk (Kd.R_mono (Kd.R_keep (IsS127.apart (IsS127.a : IsS127 w0 _ g s0_0 t639 t640) (by (with_reducible repeat (first | apply Kd.R_alloc | apply Kd.R_drewN | apply Kd.R_drew)); exact HO634.out) (by decide)) hk (fun _ h => h.2)) (fun _ h => h.1)); replace HK := Aside0.mk (KeepBut.trans (kl) hk (.inl rfl)); replace HI0 := Aside0.mk (hi); replace HB := Aside0.mk (hb); (try clear hb hk)) | ((with_reducible refine zf 96 rfl ?_); refine g1 (some 40) Try.func96 #[.int .i64 2, .int .i64 t641] ?_; (with_reducible refine (spec_l01Power.calls kj2 2 t641 t644 _ A29.out).mono ?_); rintro e w' ⟨rfl, ⟨nd, rfl⟩⟩; refine ⟨_, rfl, ?_⟩; (try (rw [drewN_self w43]; generalize hq_ : World.drewN w43 _ = w43; have n0_ : Aside0 (Kd.R (Kd.int .i64) 2 w43 w.heap.size (fun _ => True) (.slice Ao40 y632.length co40) y632) := ⟨by rw [← hq_]; exact (by (with_reducible repeat (first | apply Kd.R_alloc | apply Kd.R_drewN | apply Kd.R_drew)); exact HO634.out)⟩; have n1_ : Aside0 (w43.heap[gb607]? = some (.cells #[.int .i64 0, .int .i64 0] 63 (0, 0))) := ⟨by rw [← hq_]; exact (be BK607)⟩; have n2_ : Aside0 (IsS127 w0 w43 g s0_0 t642 t643) := ⟨by rw [← hq_]; exact (IsS127.a)⟩; have n3_ : Aside0 (KeepBut w w43 g none) := ⟨by rw [← hq_]; exact (kl)⟩; have n4_ : Aside0 (Below w0.heap.size w0 w43) := ⟨by rw [← hq_]; exact (IsS127.b)⟩; clear HO634 BK607 HI0 HK HB hq_; have HO634 := n0_; have BK607 := n1_; have HI0 := n2_; have HK := n3_; have HB := n4_; clear n0_ n1_ n2_ n3_ n4_))) | ((with_reducible refine zf 101 rfl ?_); refine g1 (some 42) Try.func101 #[.pointer (some ⟨g, 0, none⟩), .int .i64 6] ?_; (with_reducible refine (spec_l01Next.calls g s0_0 t642 t643 6 t645 t646 t647 w0 _ ?side1 ?side2 A30.out).mono ?_); (case side1 => exact IsS127.a); (case side2 => exact IsS127.b); rintro e w44 ⟨rfl, hi, hb, hk⟩; refine ⟨_, rfl, ?_⟩; replace BK607 := kb hk BK607 NB607_0; replace HO634 := Aside0.mk (Kd.R_mono (Kd.R_keep (IsS127.apart (IsS127.a : IsS127 w0 _ g s0_0 t642 t643) (by (with_reducible repeat (first | apply Kd.R_alloc | apply Kd.R_drewN | apply Kd.R_drew)); exact HO634.out) (by decide)) hk (fun _ h => h.2)) (fun _ h => h.1)); replace HK := Aside0.mk (KeepBut.trans (kl) hk (.inl rfl)); replace HI0 := Aside0.mk (hi); replace HB := Aside0.mk (hb); (try clear hb hk)) | ((with_reducible refine zf 96 rfl ?_); refine g1 (some 43) Try.func96 #[.int .i64 3, .int .i64 t645] ?_; (with_reducible refine (spec_l01Power.calls kj2 3 t645 t648 _ A31.out).mono ?_); rintro e w' ⟨rfl, ⟨nd, rfl⟩⟩; refine ⟨_, rfl, ?_⟩; (try (rw [drewN_self w44]; generalize hq_ : World.drewN w44 _ = w44; have n0_ : Aside0 (Kd.R (Kd.int .i64) 2 w44 w.heap.size (fun _ => True) (.slice Ao40 y632.length co40) y632) := ⟨by rw [← hq_]; exact (by (with_reducible repeat (first | apply Kd.R_alloc | apply Kd.R_drewN | apply Kd.R_drew)); exact HO634.out)⟩; have n1_ : Aside0 (w44.heap[gb607]? = some (.cells #[.int .i64 0, .int .i64 0] 63 (0, 0))) := ⟨by rw [← hq_]; exact (be BK607)⟩; have n2_ : Aside0 (IsS127 w0 w44 g s0_0 t646 t647) := ⟨by rw [← hq_]; exact (IsS127.a)⟩; have n3_ : Aside0 (KeepBut w w44 g none) := ⟨by rw [← hq_]; exact (kl)⟩; have n4_ : Aside0 (Below w0.heap.size w0 w44) := ⟨by rw [← hq_]; exact (IsS127.b)⟩; clear HO634 BK607 HI0 HK HB hq_; have HO634 := n0_; have BK607 := n1_; have HI0 := n2_; have HK := n3_; have HB := n4_; clear n0_ n1_ n2_ n3_ n4_))) | ((with_reducible refine zf 101 rfl ?_); refine g1 (some 45) Try.func101 #[.pointer (some ⟨g, 0, none⟩), .int .i64 1000000] ?_; (with_reducible refine (spec_l01Next.calls g s0_0 t646 t647 1000000 t649 t650 t651 w0 _ ?side1 ?side2 A32.out).mono ?_); (case side1 => exact IsS127.a); (case side2 => exact IsS127.b); rintro e w45 ⟨rfl, hi, hb, hk⟩; refine ⟨_, rfl, ?_⟩; replace BK607 := kb hk BK607 NB607_0; replace HO634 := Aside0.mk (Kd.R_mono (Kd.R_keep (IsS127.apart (IsS127.a : IsS127 w0 _ g s0_0 t646 t647) (by (with_reducible repeat (first | apply Kd.R_alloc | apply Kd.R_drewN | apply Kd.R_drew)); exact HO634.out) (by decide)) hk (fun _ h => h.2)) (fun _ h => h.1)); replace HK := Aside0.mk (KeepBut.trans (kl) hk (.inl rfl)); replace HI0 := Aside0.mk (hi); replace HB := Aside0.mk (hb); (try clear hb hk)) | ((with_reducible refine zg 47 rfl ?_); refine Kd.R_lit (Kd.int .i64) _ 2 ?hg (N := 47) ?hd (xs := ([1, 1, wrap64 (1 + t638), t644, t648, wrap64 (1 + t649)] : List Int)) (inner := [.int .i64 1, .int .i64 1, .int .i64 (wrap64 (1 + t638)), .int .i64 t644, .int .i64 t648, .int .i64 (wrap64 (1 + t649))]) (ok := fun _ => True) (okp := fun _ => True) ?hr ?hp (fun _ hk => hk) trivial (Below.refl _ _) (Nat.le_refl _) (by simp) ?_; (case hd => rfl); (case hg => rfl); (case hr => first | (go_simp; done) | (go_simp; rfl)); (case hp => exact (Reps.one (show Kd.M (Kd.int .i64) _ _ _ 1 [.int .i64 1] from rfl) (Reps.one (show Kd.M (Kd.int .i64) _ _ _ 1 [.int .i64 1] from rfl) (Reps.one (show Kd.M (Kd.int .i64) _ _ _ (wrap64 (1 + t638)) [.int .i64 (wrap64 (1 + t638))] from rfl) (Reps.one (show Kd.M (Kd.int .i64) _ _ _ t644 [.int .i64 t644] from rfl) (Reps.one (show Kd.M (Kd.int .i64) _ _ _ t648 [.int .i64 t648] from rfl) (Reps.one (show Kd.M (Kd.int .i64) _ _ _ (wrap64 (1 + t649)) [.int .i64 (wrap64 (1 + t649))] from rfl) (Reps.none _ _)))))))); intro v653 w46 ho47 hb hg_ hnew_; clear hg_ hnew_; (first | rw [← Ny652.out] at ho47 | (simp only [Int.reduceToNat] at ho47; rw [← Ny652.out] at ho47)); have HO654 := Aside0.mk (Kd.R_lower (Kd.R_new' ho47 (Kd.R_lt (by (with_reducible repeat (first | apply Kd.R_alloc | apply Kd.R_drewN | apply Kd.R_drew)); exact HO634.out))) (keep_size (w := w) (g := g) (row := none) (kl))); replace HO634 := Aside0.mk (Kd.R_elder' (by (with_reducible repeat (first | apply Kd.R_alloc | apply Kd.R_drewN | apply Kd.R_drew)); exact HO634.out) (Kd.R_base ho47) hb); replace BK607 := bb BK607 hb; replace HK := Aside0.mk (KeepBut.trans (kl) (KeepBut.of_below hb g none) (.inl rfl)); replace HB := Aside0.mk (below_step IsS127.b hb); replace HI0 := Aside0.mk (IsS127.below (IsS127.a) hb); clear hb ho47; obtain ⟨Ao48, co48, eo48⟩ := Kd.R_slice HO654.out; subst eo48) | ((with_reducible refine zf 100 rfl ?_); refine g1 (some 48) Try.func100 #[.pointer (some ⟨g, 0, none⟩), .slice Ao48 y652.length co48] ?_; (with_reducible refine (spec_l01Pick.calls g s0_0 t650 t651 _ _ y652 t655 t656 t657 w0 _ ?side1 ?side2 ?side3 ?side4 ?side5 A33.out).mono ?_); (case side1 => exact IsS127.a); (case side2 => exact IsS127.b); (case side3 => repeat (first | exact (Kd.R_reads' HO654.out).2.2 | (with_reducible refine Kd.C_alloc ?_ _) | (with_reducible refine Kd.C_drewN ?_ _) | (with_reducible refine Kd.C_drew ?_))); (case side4 => exact (Kd.R_reads' HO654.out).2.1); (case side5 => exact far_slice (IsS127.own_ne HI0.out HO654.out (by decide))); rintro e w49 ⟨rfl, hi, hb, hk⟩; refine ⟨_, rfl, ?_⟩; replace BK607 := kb hk BK607 NB607_0; replace HO634 := Aside0.mk (Kd.R_mono (Kd.R_keep (IsS127.apart (IsS127.a : IsS127 w0 _ g s0_0 t650 t651) (by (with_reducible repeat (first | apply Kd.R_alloc | apply Kd.R_drewN | apply Kd.R_drew)); exact HO634.out) (by decide)) hk (fun _ h => h.2)) (fun _ h => h.1)); replace HO654 := Aside0.mk (Kd.R_mono (Kd.R_keep (IsS127.apart (IsS127.a : IsS127 w0 _ g s0_0 t650 t651) (by (with_reducible repeat (first | apply Kd.R_alloc | apply Kd.R_drewN | apply Kd.R_drew)); exact HO654.out) (by decide)) hk (fun _ h => h.2)) (fun _ h => h.1)); replace HK := Aside0.mk (KeepBut.trans (kl) hk (.inl rfl)); replace HI0 := Aside0.mk (hi); replace HB := Aside0.mk (hb); (try clear hb hk)) | ((with_reducible refine zf 133 rfl ?_); refine g1 (some 52) Try.func133 #[.int .i64 t635, .int .i64 t655] ?_; (with_reducible refine (spec_l01EndOf.calls kj2 t635 t655 t658 t659 t660 _ A34.out).mono ?_); rintro e w50 ⟨rfl, hb⟩; refine ⟨_, rfl, ?_⟩; replace HO634 := Aside0.mk (Kd.R_below (by (with_reducible repeat (first | apply Kd.R_alloc | apply Kd.R_drewN | apply Kd.R_drew)); exact HO634.out) hb); replace HO654 := Aside0.mk (Kd.R_below (by (with_reducible repeat (first | apply Kd.R_alloc | apply Kd.R_drewN | apply Kd.R_drew)); exact HO654.out) hb); replace BK607 := bb BK607 hb; replace HK := Aside0.mk (KeepBut.trans (kl) (KeepBut.of_below hb g none) (.inl rfl)); replace HB := Aside0.mk (below_step IsS127.b hb); replace HI0 := Aside0.mk (IsS127.below (IsS127.a) hb); (try clear hb)) | ((with_reducible refine zg 5 rfl ?_); refine zb 5 63 #[.int .i64 0, .int .i64 0] ?_; intro gb661 hg w51 BK661 hb; have GW661 := Aside0.mk ((by rw [hg]; exact (keep_size (w := w) (g := g) (row := none) (kl)) : w.heap.size ≤ gb661)); have GE661 := Aside0.mk ((Nat.le_trans HW0.out (by rw [hg]; exact (keep_size (w := w) (g := g) (row := none) (kl)) : w.heap.size ≤ gb661) : w0.heap.size ≤ gb661)); have NB607_661 := nl hg BK607; have NB0_661 := Aside0.mk ((by rw [hg]; exact Nat.ne_of_lt (IsS127.lt (IsS127.a : IsS127 w0 _ g s0_0 t656 t657)) : g ≠ gb661)); have NB661_0 := Aside0.mk ((by rw [hg]; exact Nat.ne_of_gt (IsS127.lt (IsS127.a : IsS127 w0 _ g s0_0 t656 t657)) : gb661 ≠ g)); replace HO634 := Aside0.mk (Kd.R_below (by (with_reducible repeat (first | apply Kd.R_alloc | apply Kd.R_drewN | apply Kd.R_drew)); exact HO634.out) hb); replace HO654 := Aside0.mk (Kd.R_below (by (with_reducible repeat (first | apply Kd.R_alloc | apply Kd.R_drewN | apply Kd.R_drew)); exact HO654.out) hb); replace BK607 := bb BK607 hb; replace HK := Aside0.mk (KeepBut.trans (kl) (KeepBut.of_below hb g none) (.inl rfl)); replace HB := Aside0.mk (below_step IsS127.b hb); replace HI0 := Aside0.mk (IsS127.below (IsS127.a) hb); clear hb hg; obtain ⟨hnb52, hnc52⟩ := zm NB607_661; have hnb53 := NB661_0.out; have hnc53 := NB0_661.out; obtain ⟨hcz54_0, hcz54_1, hfz54_0, hfz54_1⟩ := z2 BK661; have hnb55 := NB607_0.out; have hnc55 := NB0_607.out; obtain ⟨hcz56_0, hcz56_1, hfz56_0, hfz56_1⟩ := z2 BK607))
     refine bodyPost_ret (results_cell_row rfl _ _ gb607 63 #[.int .i64 t658, .int .i64 t659] (0, 0) _ rfl (bp) Try.underlying63 rfl (by kernel_rfl)) rfl ?_
     exact ⟨er, IsS127.a, IsS127.b, kl⟩

/-! ### spec_DrawHeightOver: function 58 -/
def spec_DrawHeightOver.f (k : Nat) (l0 : List Int) : Option (Int × Int × Int × Int × Int × Int × Int × Int × Int) := (spec_l01From.f k l0).bind fun bt665 => ((spec_l02Two.f k bt665.1 bt665.2.1 bt665.2.2).bind fun bt669 => ((spec_l01DrawEnd.f k bt665.1 bt669.2.2.2.2.2.2.2.1 bt669.2.2.2.2.2.2.2.2).bind fun bt680 => (some (bt669.1, bt669.2.1, bt669.2.2.1, bt669.2.2.2.1, bt669.2.2.2.2.1, bt669.2.2.2.2.2.1, bt669.2.2.2.2.2.2.1, bt680.1, bt680.2.1))))
def spec_DrawHeightOver.T3 : Bool × List (List Nat × List Nat) := (true, [([], []), ([], []), ([], []), ([], []), ([3], [3]), ([0, 4, 0], [0]), ([1, 5, 0, 1, 5], [1]), ([2, 6, 0, 1, 2, 5, 6], [2]), ([4, 7, 0, 1, 2, 3, 4, 5, 6, 7], [4])])
def spec_DrawHeightOver.B3 : List Nat := [0, 0, 0, 0, 8, 25, 59, 127, 255]
theorem spec_DrawHeightOver.tab3 : rtab .any (opsOf Try.f58 3) = spec_DrawHeightOver.T3 := by kernel_rfl
theorem spec_DrawHeightOver.bits3 : waitsOk spec_DrawHeightOver.T3.2 spec_DrawHeightOver.B3 = true := by kernel_rfl
set_option maxHeartbeats 8000000 in
set_option maxRecDepth 100000 in
theorem spec_DrawHeightOver.calls (k : Nat) (A0 : Option Addr) (c0 : Nat) (l0 : List Int) (r1 : Int) (r2 : Int) (r3 : Int) (r4 : Int) (r5 : Int) (r6 : Int) (r7 : Int) (r8 : Int) (r9 : Int) (w : World) (hr0 : Kd.C (Kd.int .u8) w A0 l0.length l0) (hc0 : l0.length ≤ c0) (h : spec_DrawHeightOver.f k l0 = some (r1, r2, r3, r4, r5, r6, r7, r8, r9)) :
  Calls Try.prog 58 #[.slice A0 l0.length c0] w fun e w' => e = .returned (.tuple #[.int .i64 r1, .agg #[.int .i64 r2, .int .i64 r3, .int .i64 r4], .agg #[.int .i64 r5, .int .i64 r6, .int .i64 r7], .agg #[.int .i64 r8, .int .i64 r9]]) ∧ Below w.heap.size w w' := by
 have hu27 := Try.underlying27
 have hu63 := Try.underlying63
 have HR0 := Aside0.mk hr0
 have HC0 := Aside0.mk hc0
 clear hr0 hc0
 have HB := Aside0.mk (Below.refl w.heap.size w)
 unfold spec_DrawHeightOver.f at h
 have H := h
 clear h
 replace H := zi H
 obtain ⟨⟨t665, t666, t667⟩, A2, H⟩ := H
 try dsimp only at H
 replace H := zi H
 obtain ⟨⟨t669, t670, t671, t672, t673, t674, t675, t676, t677⟩, A3, H⟩ := H
 try dsimp only at H
 replace H := zi H
 obtain ⟨⟨t680, t681, t682, t683⟩, A4, H⟩ := H
 try dsimp only at H
 simp only [Option.some.injEq, Prod.mk.injEq] at H
 obtain ⟨rfl, rfl, rfl, rfl, rfl, rfl, rfl, rfl, rfl⟩ := H
 go_enter Try.func58, Try.ntmps58
 try go_wp2_with (first | ((with_reducible refine zg 3 rfl ?_); refine z3 3 27 0 0 0 ?_; intro gb662 hg w5 BK662 hb; have GW662 := sg hg; replace HB := bs hb; clear hb hg) | ((with_reducible refine zg 4 rfl ?_); refine z3 4 27 0 0 0 ?_; intro gb663 hg w6 BK663 hb; have GW663 := sg hg; have NB662_663 := nl hg BK662; replace BK662 := bb BK662 hb; replace HB := bs hb; clear hb hg) | ((with_reducible refine zg 5 rfl ?_); refine zb 5 63 #[.int .i64 0, .int .i64 0] ?_; intro gb664 hg w7 BK664 hb; have GW664 := sg hg; have NB662_664 := nl hg BK662; have NB663_664 := nl hg BK663; replace BK662 := bb BK662 hb; replace BK663 := bb BK663 hb; replace HB := bs hb; clear hb hg) | ((with_reducible refine zf 98 rfl ?_); refine g1 (some 11) Try.func98 #[.slice A0 l0.length c0] ?_; (with_reducible refine (spec_l01From.calls k _ _ l0 t665 t666 t667 w _ ?side1 ?side2 ?side3 A2.out).mono ?_); (case side1 => exact bl); (case side2 => exact HR0.out); (case side3 => exact HC0.out); rintro e w8 ⟨g668, rfl, hi, hb, hb2⟩; refine ⟨_, rfl, ?_⟩; have HI668 := Aside0.mk (hi); have NB668_662 := Aside0.mk (IsS127.ne_blk hi (blk_below (g := gb662) (o := .cells #[.int .i64 0, .int .i64 0, .int .i64 0] 27 (0, 0)) (be BK662) hb2) (by decide)); have NB662_668 := Aside0.mk (Ne.symm (IsS127.ne_blk hi (blk_below (g := gb662) (o := .cells #[.int .i64 0, .int .i64 0, .int .i64 0] 27 (0, 0)) (be BK662) hb2) (by decide))); have NB668_663 := Aside0.mk (IsS127.ne_blk hi (blk_below (g := gb663) (o := .cells #[.int .i64 0, .int .i64 0, .int .i64 0] 27 (0, 0)) (be BK663) hb2) (by decide)); have NB663_668 := Aside0.mk (Ne.symm (IsS127.ne_blk hi (blk_below (g := gb663) (o := .cells #[.int .i64 0, .int .i64 0, .int .i64 0] 27 (0, 0)) (be BK663) hb2) (by decide))); have NB668_664 := Aside0.mk (IsS127.ne_blk hi (blk_below (g := gb664) (o := .cells #[.int .i64 0, .int .i64 0] 63 (0, 0)) (be BK664) hb2) (by decide)); have NB664_668 := Aside0.mk (Ne.symm (IsS127.ne_blk hi (blk_below (g := gb664) (o := .cells #[.int .i64 0, .int .i64 0] 63 (0, 0)) (be BK664) hb2) (by decide))); replace BK662 := Aside0.mk (blk_below (g := gb662) (o := .cells #[.int .i64 0, .int .i64 0, .int .i64 0] 27 (0, 0)) (be BK662) hb2); replace BK663 := Aside0.mk (blk_below (g := gb663) (o := .cells #[.int .i64 0, .int .i64 0, .int .i64 0] 27 (0, 0)) (be BK663) hb2); replace BK664 := Aside0.mk (blk_below (g := gb664) (o := .cells #[.int .i64 0, .int .i64 0] 63 (0, 0)) (be BK664) hb2); replace HB := Aside0.mk (hb); (try clear hb); (try clear hb2); (try clear hk); (try clear hi)) | ((with_reducible refine zf 115 rfl ?_); refine g1 (some 14) Try.func115 #[.pointer (some ⟨g668, 0, none⟩)] ?_; (with_reducible refine (spec_l02Two.calls k g668 t665 t666 t667 t669 t670 t671 t672 t673 t674 t675 t676 t677 w _ ?side1 ?side2 A3.out).mono ?_); (case side1 => repeat (first | (with_reducible first | exact HI668.out | apply IsS127.alloc | apply IsS127.drewN | apply IsS127.drew | apply IsS127.set_1 | apply IsS127.set_2 | refine IsS127.far ?_ NB668_662.out _ | refine IsS127.far ?_ NB668_663.out _ | refine IsS127.far ?_ NB668_664.out _) | exact HI668.out)); (case side2 => repeat (first | (with_reducible first | exact HB.out | apply below_alloc | apply pw_below_drewN | apply below_drew1 | refine below_set ?_ (IsS127.ge HI668.out) | refine below_set ?_ GW662.out | refine below_set ?_ GW663.out | refine below_set ?_ GW664.out) | exact HB.out)); rintro e w9 ⟨rfl, hi, hb, hk⟩; refine ⟨_, rfl, ?_⟩; replace BK662 := kb hk BK662 NB662_668; replace BK663 := kb hk BK663 NB663_668; replace BK664 := kb hk BK664 NB664_668; replace HI668 := Aside0.mk (hi); replace HB := Aside0.mk (hb); (try clear hb hk)) | ((with_reducible refine zg 8 rfl ?_); refine z3 8 27 0 0 0 ?_; intro gb678 hg w10 BK678 hb; have GW678 := Aside0.mk ((by rw [hg]; exact (below_size (by repeat (first | (with_reducible first | exact HB.out | apply below_alloc | apply pw_below_drewN | apply below_drew1 | refine below_set ?_ (IsS127.ge HI668.out) | refine below_set ?_ GW662.out | refine below_set ?_ GW663.out | refine below_set ?_ GW664.out) | exact HB.out))) : w.heap.size ≤ gb678)); have GE678 := Aside0.mk ((by rw [hg]; exact (below_size (by repeat (first | (with_reducible first | exact HB.out | apply below_alloc | apply pw_below_drewN | apply below_drew1 | refine below_set ?_ (IsS127.ge HI668.out) | refine below_set ?_ GW662.out | refine below_set ?_ GW663.out | refine below_set ?_ GW664.out) | exact HB.out))) : w.heap.size ≤ gb678)); have NB662_678 := nl hg BK662; have NB663_678 := nl hg BK663; have NB664_678 := nl hg BK664; have NB668_678 := Aside0.mk ((by rw [hg]; exact Nat.ne_of_lt (IsS127.lt (show IsS127 w _ g668 t665 t676 t677 from by repeat (first | (with_reducible first | exact HI668.out | apply IsS127.alloc | apply IsS127.drewN | apply IsS127.drew | apply IsS127.set_1 | apply IsS127.set_2 | refine IsS127.far ?_ NB668_662.out _ | refine IsS127.far ?_ NB668_663.out _ | refine IsS127.far ?_ NB668_664.out _) | exact HI668.out))) : g668 ≠ gb678)); have NB678_668 := Aside0.mk ((by rw [hg]; exact Nat.ne_of_gt (IsS127.lt (show IsS127 w _ g668 t665 t676 t677 from by repeat (first | (with_reducible first | exact HI668.out | apply IsS127.alloc | apply IsS127.drewN | apply IsS127.drew | apply IsS127.set_1 | apply IsS127.set_2 | refine IsS127.far ?_ NB668_662.out _ | refine IsS127.far ?_ NB668_663.out _ | refine IsS127.far ?_ NB668_664.out _) | exact HI668.out))) : gb678 ≠ g668)); replace BK662 := bb BK662 hb; replace BK663 := bb BK663 hb; replace BK664 := bb BK664 hb; replace HB := Aside0.mk (below_step (by repeat (first | (with_reducible first | exact HB.out | apply below_alloc | apply pw_below_drewN | apply below_drew1 | refine below_set ?_ (IsS127.ge HI668.out) | refine below_set ?_ GW662.out | refine below_set ?_ GW663.out | refine below_set ?_ GW664.out) | exact HB.out)) hb); replace HI668 := Aside0.mk (IsS127.below (by repeat (first | (with_reducible first | exact HI668.out | apply IsS127.alloc | apply IsS127.drewN | apply IsS127.drew | apply IsS127.set_1 | apply IsS127.set_2 | refine IsS127.far ?_ NB668_662.out _ | refine IsS127.far ?_ NB668_663.out _ | refine IsS127.far ?_ NB668_664.out _) | exact HI668.out)) hb); clear hb hg) | ((with_reducible refine zg 9 rfl ?_); refine z3 9 27 0 0 0 ?_; intro gb679 hg w11 BK679 hb; have GW679 := Aside0.mk ((by rw [hg]; exact (below_size (by repeat (first | (with_reducible first | exact HB.out | apply below_alloc | apply pw_below_drewN | apply below_drew1 | refine below_set ?_ (IsS127.ge HI668.out) | refine below_set ?_ GW662.out | refine below_set ?_ GW663.out | refine below_set ?_ GW664.out | refine below_set ?_ GE678.out) | exact HB.out))) : w.heap.size ≤ gb679)); have GE679 := Aside0.mk ((by rw [hg]; exact (below_size (by repeat (first | (with_reducible first | exact HB.out | apply below_alloc | apply pw_below_drewN | apply below_drew1 | refine below_set ?_ (IsS127.ge HI668.out) | refine below_set ?_ GW662.out | refine below_set ?_ GW663.out | refine below_set ?_ GW664.out | refine below_set ?_ GE678.out) | exact HB.out))) : w.heap.size ≤ gb679)); have NB662_679 := nl hg BK662; have NB663_679 := nl hg BK663; have NB664_679 := nl hg BK664; have NB678_679 := nl hg BK678; have NB668_679 := Aside0.mk ((by rw [hg]; exact Nat.ne_of_lt (IsS127.lt (show IsS127 w _ g668 t665 t676 t677 from by repeat (first | (with_reducible first | exact HI668.out | apply IsS127.alloc | apply IsS127.drewN | apply IsS127.drew | apply IsS127.set_1 | apply IsS127.set_2 | refine IsS127.far ?_ NB668_662.out _ | refine IsS127.far ?_ NB668_663.out _ | refine IsS127.far ?_ NB668_664.out _ | refine IsS127.far ?_ NB668_678.out _) | exact HI668.out))) : g668 ≠ gb679)); have NB679_668 := Aside0.mk ((by rw [hg]; exact Nat.ne_of_gt (IsS127.lt (show IsS127 w _ g668 t665 t676 t677 from by repeat (first | (with_reducible first | exact HI668.out | apply IsS127.alloc | apply IsS127.drewN | apply IsS127.drew | apply IsS127.set_1 | apply IsS127.set_2 | refine IsS127.far ?_ NB668_662.out _ | refine IsS127.far ?_ NB668_663.out _ | refine IsS127.far ?_ NB668_664.out _ | refine IsS127.far ?_ NB668_678.out _) | exact HI668.out))) : gb679 ≠ g668)); replace BK662 := bb BK662 hb; replace BK663 := bb BK663 hb; replace BK664 := bb BK664 hb; replace BK678 := bb BK678 hb; replace HB := Aside0.mk (below_step (by repeat (first | (with_reducible first | exact HB.out | apply below_alloc | apply pw_below_drewN | apply below_drew1 | refine below_set ?_ (IsS127.ge HI668.out) | refine below_set ?_ GW662.out | refine below_set ?_ GW663.out | refine below_set ?_ GW664.out | refine below_set ?_ GE678.out) | exact HB.out)) hb); replace HI668 := Aside0.mk (IsS127.below (by repeat (first | (with_reducible first | exact HI668.out | apply IsS127.alloc | apply IsS127.drewN | apply IsS127.drew | apply IsS127.set_1 | apply IsS127.set_2 | refine IsS127.far ?_ NB668_662.out _ | refine IsS127.far ?_ NB668_663.out _ | refine IsS127.far ?_ NB668_664.out _ | refine IsS127.far ?_ NB668_678.out _) | exact HI668.out)) hb); clear hb hg; obtain ⟨hnb12, hnc12⟩ := zm NB662_678; obtain ⟨hnb13, hnc13⟩ := zm NB663_678; obtain ⟨hnb14, hnc14⟩ := zm NB664_678; obtain ⟨hnb15, hnc15⟩ := zn NB678_679; have hnb16 := NB678_668.out; have hnc16 := NB668_678.out; obtain ⟨hcz17_0, hcz17_1, hcz17_2, hfz17_0, hfz17_1, hfz17_2⟩ := cq3 BK678; obtain ⟨hnb18, hnc18⟩ := zm NB662_679; obtain ⟨hnb19, hnc19⟩ := zm NB663_679; obtain ⟨hnb20, hnc20⟩ := zm NB664_679; have hnb21 := NB679_668.out; have hnc21 := NB668_679.out; obtain ⟨hcz22_0, hcz22_1, hcz22_2, hfz22_0, hfz22_1, hfz22_2⟩ := cq3 BK679))
 have n0_ : Aside0 (((((((w11.setCell ⟨gb678, 0, none⟩ (.int .i64 t670)).setCell ⟨gb678, 1, none⟩ (.int .i64 t671)).setCell ⟨gb678, 2, none⟩ (.int .i64 t672)).setCell ⟨gb679, 0, none⟩ (.int .i64 t673)).setCell ⟨gb679, 1, none⟩ (.int .i64 t674)).setCell ⟨gb679, 2, none⟩ (.int .i64 t675)).heap[gb662]? = some (.cells #[.int .i64 0, .int .i64 0, .int .i64 0] 27 (0, 0))) := ⟨bp⟩
 have n1_ : Aside0 (((((((w11.setCell ⟨gb678, 0, none⟩ (.int .i64 t670)).setCell ⟨gb678, 1, none⟩ (.int .i64 t671)).setCell ⟨gb678, 2, none⟩ (.int .i64 t672)).setCell ⟨gb679, 0, none⟩ (.int .i64 t673)).setCell ⟨gb679, 1, none⟩ (.int .i64 t674)).setCell ⟨gb679, 2, none⟩ (.int .i64 t675)).heap[gb663]? = some (.cells #[.int .i64 0, .int .i64 0, .int .i64 0] 27 (0, 0))) := ⟨bp⟩
 have n2_ : Aside0 (((((((w11.setCell ⟨gb678, 0, none⟩ (.int .i64 t670)).setCell ⟨gb678, 1, none⟩ (.int .i64 t671)).setCell ⟨gb678, 2, none⟩ (.int .i64 t672)).setCell ⟨gb679, 0, none⟩ (.int .i64 t673)).setCell ⟨gb679, 1, none⟩ (.int .i64 t674)).setCell ⟨gb679, 2, none⟩ (.int .i64 t675)).heap[gb664]? = some (.cells #[.int .i64 0, .int .i64 0] 63 (0, 0))) := ⟨bp⟩
 have n3_ : Aside0 (((((((w11.setCell ⟨gb678, 0, none⟩ (.int .i64 t670)).setCell ⟨gb678, 1, none⟩ (.int .i64 t671)).setCell ⟨gb678, 2, none⟩ (.int .i64 t672)).setCell ⟨gb679, 0, none⟩ (.int .i64 t673)).setCell ⟨gb679, 1, none⟩ (.int .i64 t674)).setCell ⟨gb679, 2, none⟩ (.int .i64 t675)).heap[gb678]? = some (.cells #[.int .i64 t670, .int .i64 t671, .int .i64 t672] 27 (0, 0))) := ⟨bp⟩
 have n4_ : Aside0 (((((((w11.setCell ⟨gb678, 0, none⟩ (.int .i64 t670)).setCell ⟨gb678, 1, none⟩ (.int .i64 t671)).setCell ⟨gb678, 2, none⟩ (.int .i64 t672)).setCell ⟨gb679, 0, none⟩ (.int .i64 t673)).setCell ⟨gb679, 1, none⟩ (.int .i64 t674)).setCell ⟨gb679, 2, none⟩ (.int .i64 t675)).heap[gb679]? = some (.cells #[.int .i64 t673, .int .i64 t674, .int .i64 t675] 27 (0, 0))) := ⟨bp⟩
 have n5_ : Aside0 (IsS127 w ((((((w11.setCell ⟨gb678, 0, none⟩ (.int .i64 t670)).setCell ⟨gb678, 1, none⟩ (.int .i64 t671)).setCell ⟨gb678, 2, none⟩ (.int .i64 t672)).setCell ⟨gb679, 0, none⟩ (.int .i64 t673)).setCell ⟨gb679, 1, none⟩ (.int .i64 t674)).setCell ⟨gb679, 2, none⟩ (.int .i64 t675)) g668 t665 t676 t677) := ⟨by repeat (first | (with_reducible first | exact HI668.out | apply IsS127.alloc | apply IsS127.drewN | apply IsS127.drew | apply IsS127.set_1 | apply IsS127.set_2 | refine IsS127.far ?_ NB668_662.out _ | refine IsS127.far ?_ NB668_663.out _ | refine IsS127.far ?_ NB668_664.out _ | refine IsS127.far ?_ NB668_678.out _ | refine IsS127.far ?_ NB668_679.out _) | exact HI668.out)⟩
 have n6_ : Aside0 (Below w.heap.size w ((((((w11.setCell ⟨gb678, 0, none⟩ (.int .i64 t670)).setCell ⟨gb678, 1, none⟩ (.int .i64 t671)).setCell ⟨gb678, 2, none⟩ (.int .i64 t672)).setCell ⟨gb679, 0, none⟩ (.int .i64 t673)).setCell ⟨gb679, 1, none⟩ (.int .i64 t674)).setCell ⟨gb679, 2, none⟩ (.int .i64 t675))) := ⟨by repeat (first | (with_reducible first | exact HB.out | apply below_alloc | apply pw_below_drewN | apply below_drew1 | refine below_set ?_ (IsS127.ge HI668.out) | refine below_set ?_ GW662.out | refine below_set ?_ GW663.out | refine below_set ?_ GW664.out | refine below_set ?_ GE678.out | refine below_set ?_ GE679.out) | exact HB.out)⟩
 (try clear BK662)
 (try clear BK663)
 (try clear BK664)
 (try clear BK678)
 (try clear BK679)
 (try clear HI668)
 (try clear HB)
 generalize ((((((w11.setCell ⟨gb678, 0, none⟩ (.int .i64 t670)).setCell ⟨gb678, 1, none⟩ (.int .i64 t671)).setCell ⟨gb678, 2, none⟩ (.int .i64 t672)).setCell ⟨gb679, 0, none⟩ (.int .i64 t673)).setCell ⟨gb679, 1, none⟩ (.int .i64 t674)).setCell ⟨gb679, 2, none⟩ (.int .i64 t675)) = w23 at n0_ n1_ n2_ n3_ n4_ n5_ n6_ ⊢
 have BK662 := n0_
 have BK663 := n1_
 have BK664 := n2_
 have BK678 := n3_
 have BK679 := n4_
 have HI668 := n5_
 have HB := n6_
 clear n0_ n1_ n2_ n3_ n4_ n5_ n6_
 replace BK662 := Aside0.mk (blk_drew BK662.out)
 replace BK663 := Aside0.mk (blk_drew BK663.out)
 replace BK664 := Aside0.mk (blk_drew BK664.out)
 replace BK678 := Aside0.mk (blk_drew BK678.out)
 replace BK679 := Aside0.mk (blk_drew BK679.out)
 replace HI668 := Aside0.mk (IsS127.drew HI668.out)
 replace HB := Aside0.mk (below_drew1 HB.out)
 refine sw 9 (fun w' => w'.cell? ⟨gb678, 0, none⟩ = some (.int .i64 t670) ∧ w'.cell? ⟨gb678, 1, none⟩ = some (.int .i64 t671) ∧ w'.cell? ⟨gb678, 2, none⟩ = some (.int .i64 t672) ∧ w'.cell? ⟨gb679, 0, none⟩ = some (.int .i64 t673) ∧ w'.cell? ⟨gb679, 1, none⟩ = some (.int .i64 t674) ∧ w'.cell? ⟨gb679, 2, none⟩ = some (.int .i64 t675)) spec_DrawHeightOver.tab3 spec_DrawHeightOver.bits3 (e3r BK678 (e3 BK679)) (fun hHeld HT_ HW_ => ?_)
 generalize w23.drew = w24 at BK662 BK663 BK664 BK678 BK679 HI668 HB hHeld ⊢
 refine pu 0 (some 18) (tA 9 1) HT_ ?_
 refine pu 3 (some 21) (tA 9 9) HT_ ?_
 refine tk6 1 (some 19) (tA 9 11) HT_ HW_ hHeld ?_
 refine tk6 2 (some 20) (tA 9 15) HT_ HW_ hHeld ?_
 refine o1 4 (some 22) (tA 9 31) HT_ (fun K hK => ?_)
 refine gs Try.func121 #[.pointer (some ⟨g668, 0, none⟩)] ?_
 with_reducible refine (spec_l01DrawEnd.calls k g668 t665 t676 t677 t680 t681 t682 t683 w _ ?side1 ?side2 A4.out).mono ?_
 (case side1 => repeat (first | (with_reducible first | exact HI668.out | apply IsS127.alloc | apply IsS127.drewN | apply IsS127.drew | apply IsS127.set_1 | apply IsS127.set_2 | refine IsS127.far ?_ NB668_662.out _ | refine IsS127.far ?_ NB668_663.out _ | refine IsS127.far ?_ NB668_664.out _ | refine IsS127.far ?_ NB668_678.out _ | refine IsS127.far ?_ NB668_679.out _) | exact HI668.out))
 (case side2 => repeat (first | (with_reducible first | exact HB.out | apply below_alloc | apply pw_below_drewN | apply below_drew1 | refine below_set ?_ (IsS127.ge HI668.out) | refine below_set ?_ GW662.out | refine below_set ?_ GW663.out | refine below_set ?_ GW664.out | refine below_set ?_ GE678.out | refine below_set ?_ GE679.out) | exact HB.out))
 rintro e w25 ⟨rfl, hi, hb, hk⟩
 refine ⟨_, rfl, ?_⟩
 replace BK662 := kb hk BK662 NB662_668
 replace BK663 := kb hk BK663 NB663_668
 replace BK664 := kb hk BK664 NB664_668
 replace BK678 := kb hk BK678 NB678_668
 replace BK679 := kb hk BK679 NB679_668
 replace HI668 := Aside0.mk (hi)
 replace HB := Aside0.mk (hb)
 (try clear hb)
 (try clear hb2)
 (try clear hk)
 (try clear hi)
 refine hK.out _ _ (e3r BK678 (e3 BK679)) (fun hHeld => ?_)
 clear hK K
 refine nm (some 22) ?_
 refine pu 5 (some 2) (tA 9 63) HT_ ?_
 refine o1 6 none (tA 9 127) HT_ (fun K hK => ?_)
 have hs26 : w25.cell? ⟨gb662, 0, none⟩ = some (.int .i64 0) := (blk_cell BK662.out 0).trans rfl
 have hfs26 := blk_frozen BK662.out 0
 have hns26_1 := NB662_663.out.symm
 have hns26_2 := NB662_664.out.symm
 have hns26_3 := NB662_678.out.symm
 have hns26_4 := NB662_679.out.symm
 have hms26_1 := NB662_663.out
 have hms26_2 := NB662_664.out
 have hms26_3 := NB662_678.out
 have hms26_4 := NB662_679.out
 have hs27 : w25.cell? ⟨gb662, 1, none⟩ = some (.int .i64 0) := (blk_cell BK662.out 1).trans rfl
 have hfs27 := blk_frozen BK662.out 1
 have hns27_1 := NB662_663.out.symm
 have hns27_2 := NB662_664.out.symm
 have hns27_3 := NB662_678.out.symm
 have hns27_4 := NB662_679.out.symm
 have hms27_1 := NB662_663.out
 have hms27_2 := NB662_664.out
 have hms27_3 := NB662_678.out
 have hms27_4 := NB662_679.out
 have hs28 : w25.cell? ⟨gb662, 2, none⟩ = some (.int .i64 0) := (blk_cell BK662.out 2).trans rfl
 have hfs28 := blk_frozen BK662.out 2
 have hns28_1 := NB662_663.out.symm
 have hns28_2 := NB662_664.out.symm
 have hns28_3 := NB662_678.out.symm
 have hns28_4 := NB662_679.out.symm
 have hms28_1 := NB662_663.out
 have hms28_2 := NB662_664.out
 have hms28_3 := NB662_678.out
 have hms28_4 := NB662_679.out
 refine skip_ (w1 := ?_) (by rfl) rfl ?_ ?_
 rotate_left
 ·go_simp
  rfl
 refine hK.out _ _ (m3r hHeld (fun e => cs gb662 NB662_678 (cs gb662 NB662_678 (cs gb662 NB662_678 e))) (m3 hHeld.2.2.2 (fun e => cs gb662 NB662_679 (cs gb662 NB662_679 (cs gb662 NB662_679 e))))) (fun hHeld => ?_)
 clear hK K
 refine o1 7 none (tA 9 255) HT_ (fun K hK => ?_)
 have hs29 : w25.cell? ⟨gb663, 0, none⟩ = some (.int .i64 0) := (blk_cell BK663.out 0).trans rfl
 have hfs29 := blk_frozen BK663.out 0
 have hns29_0 := NB662_663.out
 have hns29_2 := NB663_664.out.symm
 have hns29_3 := NB663_678.out.symm
 have hns29_4 := NB663_679.out.symm
 have hms29_0 := NB662_663.out.symm
 have hms29_2 := NB663_664.out
 have hms29_3 := NB663_678.out
 have hms29_4 := NB663_679.out
 have hs30 : w25.cell? ⟨gb663, 1, none⟩ = some (.int .i64 0) := (blk_cell BK663.out 1).trans rfl
 have hfs30 := blk_frozen BK663.out 1
 have hns30_0 := NB662_663.out
 have hns30_2 := NB663_664.out.symm
 have hns30_3 := NB663_678.out.symm
 have hns30_4 := NB663_679.out.symm
 have hms30_0 := NB662_663.out.symm
 have hms30_2 := NB663_664.out
 have hms30_3 := NB663_678.out
 have hms30_4 := NB663_679.out
 have hs31 : w25.cell? ⟨gb663, 2, none⟩ = some (.int .i64 0) := (blk_cell BK663.out 2).trans rfl
 have hfs31 := blk_frozen BK663.out 2
 have hns31_0 := NB662_663.out
 have hns31_2 := NB663_664.out.symm
 have hns31_3 := NB663_678.out.symm
 have hns31_4 := NB663_679.out.symm
 have hms31_0 := NB662_663.out.symm
 have hms31_2 := NB663_664.out
 have hms31_3 := NB663_678.out
 have hms31_4 := NB663_679.out
 refine skip_ (w1 := ?_) (by rfl) rfl ?_ ?_
 rotate_left
 ·go_simp
  rfl
 refine hK.out _ _ (m3r hHeld (fun e => cs gb663 NB663_678 (cs gb663 NB663_678 (cs gb663 NB663_678 e))) (m3 hHeld.2.2.2 (fun e => cs gb663 NB663_679 (cs gb663 NB663_679 (cs gb663 NB663_679 e))))) (fun hHeld => ?_)
 clear hK K
 refine o1 8 none (tA 9 511) HT_ (fun K hK => ?_)
 have hs32 : w25.cell? ⟨gb664, 0, none⟩ = some (.int .i64 0) := (blk_cell BK664.out 0).trans rfl
 have hfs32 := blk_frozen BK664.out 0
 have hns32_0 := NB662_664.out
 have hns32_1 := NB663_664.out
 have hns32_3 := NB664_678.out.symm
 have hns32_4 := NB664_679.out.symm
 have hms32_0 := NB662_664.out.symm
 have hms32_1 := NB663_664.out.symm
 have hms32_3 := NB664_678.out
 have hms32_4 := NB664_679.out
 have hs33 : w25.cell? ⟨gb664, 1, none⟩ = some (.int .i64 0) := (blk_cell BK664.out 1).trans rfl
 have hfs33 := blk_frozen BK664.out 1
 have hns33_0 := NB662_664.out
 have hns33_1 := NB663_664.out
 have hns33_3 := NB664_678.out.symm
 have hns33_4 := NB664_679.out.symm
 have hms33_0 := NB662_664.out.symm
 have hms33_1 := NB663_664.out.symm
 have hms33_3 := NB664_678.out
 have hms33_4 := NB664_679.out
 refine skip_ (w1 := ?_) (by rfl) rfl ?_ ?_
 rotate_left
 ·go_simp
  rfl
 refine hK.out _ _ (m3r hHeld (fun e => cs gb664 NB664_678 (cs gb664 NB664_678 e)) (m3 hHeld.2.2.2 (fun e => cs gb664 NB664_679 (cs gb664 NB664_679 e)))) (fun hHeld => ?_)
 clear hK K
 refine done_ (done_of HT_.out (by kernel_rfl)) ?_
 try go_wp2
 refine bodyPost_ret (results_list (rs := [.tmp 2, .cell 3 27, .cell 4 27, .cell 5 63]) rfl (by simp) (.tmp (.cell gb662 27 #[.int .i64 t670, .int .i64 t671, .int .i64 t672] (0, 0) _ rfl (bp) Try.underlying27 rfl (by kernel_rfl) (.cell gb663 27 #[.int .i64 t673, .int .i64 t674, .int .i64 t675] (0, 0) _ rfl (bp) Try.underlying27 rfl (by kernel_rfl) (.cell gb664 63 #[.int .i64 t680, .int .i64 t681] (0, 0) _ rfl (bp) Try.underlying63 rfl (by kernel_rfl) .nil))))) rfl ?_
 exact ⟨er, by repeat (first | (with_reducible first | exact HB.out | apply below_alloc | apply pw_below_drewN | apply below_drew1 | refine below_set ?_ (IsS127.ge HI668.out) | refine below_set ?_ GW662.out | refine below_set ?_ GW663.out | refine below_set ?_ GW664.out | refine below_set ?_ GE678.out | refine below_set ?_ GE679.out) | exact HB.out)⟩

/-! ### impl_within: function 127 -/
def impl_within.l0 : Nat → Int → List Int → Int → Int → Option (Bool)
 | 0, _, _, _, _ => none
 | k + 1, x0, x7, x8, x9 => if x9 < x8 then (if 0 ≤ x9 then (if x9 < (x7.length : Int) then (if (rd x7 x9) < (wrap64 (-x0)) then (some false) else (if (rd x7 x9) > x0 then (some false) else (impl_within.l0 k x0 x7 x8 (wrap64 (x9 + 1))))) else (none)) else (none)) else (some true)
def impl_within.f (k : Nat) (a0 : Int) (l1 : List Int) : Option (Bool) := impl_within.l0 k a0 l1 (l1.length : Int) 0
set_option maxHeartbeats 8000000 in
set_option maxRecDepth 100000 in
theorem impl_within.calls (k : Nat) (a0 : Int) (A1 : Option Addr) (c1 : Nat) (l1 : List Int) (r : Bool) (w : World) (hr1 : Kd.C (Kd.int .i64) w A1 l1.length l1) (hc1 : l1.length ≤ c1) (h : impl_within.f k a0 l1 = some r) :
  Calls Try.prog 127 #[.int .i64 a0, .slice A1 l1.length c1] w fun e w' => e = .returned (.bool r) ∧ Drawn0 w w' := by
 have HR1 := Aside0.mk hr1
 have HC1 := Aside0.mk hc1
 clear hr1 hc1
 unfold impl_within.f at h
 have H := h
 clear h
 have H' := Aside0.mk H
 clear H
 go_enter Try.func127, Try.ntmps127
 go_wp2
 go_loopg [9] k (fun kq v9 w' => ∃ (x9_1 : Int), v9 = .int .i64 x9_1 ∧ Aside0 (impl_within.l0 kq a0 l1 (l1.length : Int) x9_1 = some r) ∧ Aside0 (kq ≤ k) ∧ Drawn0 w w')
 case atStart => exact ⟨(0), (by first | rfl | (simp; done) | (simp [*]; done)), H', ⟨Nat.le_refl _⟩, by repeat (first | exact Drawn0.refl _ | apply Drawn0.step)⟩
 case round =>
  clear H'
  obtain ⟨x9_1, rfl, HA, HK1, ⟨m1, rfl⟩⟩ := hrel
  cases gk with
  | zero => exact absurd HA.out (by simp [impl_within.l0])
  | succ k1 =>
   have H := HA.out
   clear HA
   simp only [impl_within.l0] at H
   replace H := ii H
   rcases H with ⟨c3, H⟩ | ⟨c3, H⟩
   ·have c3b0 := decide_eq_true c3
    clear c3
    replace H := ii H
    rcases H with ⟨c4, H⟩ | ⟨c4, H⟩
    ·have c4b0 := decide_eq_true c4
     clear c4
     replace H := ii H
     rcases H with ⟨c5, H⟩ | ⟨c5, H⟩
     ·have c5b0 := decide_eq_true c5
      clear c5
      replace H := ii H
      rcases H with ⟨c6, H⟩ | ⟨c6, H⟩
      ·have c6b0 := decide_eq_true c6
       clear c6
       obtain rfl := Option.some.inj H
       have p684 : 0 ≤ (x9_1 : Int) := za
       have q684 : x9_1 < (l1.length : Int) := za
       obtain ⟨ad684, e684, hx684_0⟩ := Kd.at_int HR1.out x9_1 p684 q684
       cases e684
       replace p684 := eq_true p684
       replace q684 := eq_true q684
       go_wp2
       go_ret
       exact zx
      ·have c6b0 := decide_eq_false c6
       clear c6
       replace H := ii H
       rcases H with ⟨c7, H⟩ | ⟨c7, H⟩
       ·have c7b0 := decide_eq_true c7
        clear c7
        obtain rfl := Option.some.inj H
        have p684 : 0 ≤ (x9_1 : Int) := za
        have q684 : x9_1 < (l1.length : Int) := za
        obtain ⟨ad684, e684, hx684_0⟩ := Kd.at_int HR1.out x9_1 p684 q684
        cases e684
        replace p684 := eq_true p684
        replace q684 := eq_true q684
        go_wp2
        go_ret
        exact zx
       ·have c7b0 := decide_eq_false c7
        clear c7
        have H' := Aside0.mk H
        clear H
        have p684 : 0 ≤ (x9_1 : Int) := za
        have q684 : x9_1 < (l1.length : Int) := za
        obtain ⟨ad684, e684, hx684_0⟩ := Kd.at_int HR1.out x9_1 p684 q684
        cases e684
        replace p684 := eq_true p684
        replace q684 := eq_true q684
        go_wp2
        go_roundg k1
        case measure => have := HK1.out; omega
        case rel => exact ⟨(wrap64 (x9_1 + 1)), (by first | rfl | (simp; done) | (simp [*]; done)), H', ⟨by have := HK1.out; omega⟩, by repeat (first | exact Drawn0.refl _ | apply Drawn0.step)⟩
     ·exact absurd H (by simp)
    ·exact absurd H (by simp)
   ·have c3b0 := decide_eq_false c3
    clear c3
    obtain rfl := Option.some.inj H
    go_wp2
    go_ret
    exact zx

/-! ### impl_gcd: function 148 -/
def impl_gcd.l0 : Nat → Int → Int → Option (Int)
 | 0, _, _ => none
 | k + 1, x0, x1 => if x1 = 0 then (some (mx x0 (wrap64 (-x0)))) else (impl_gcd.l0 k x1 (Int.tmod x0 x1))
def impl_gcd.f (k : Nat) (a0 : Int) (a1 : Int) : Option (Int) := impl_gcd.l0 k a0 a1
set_option maxHeartbeats 8000000 in
set_option maxRecDepth 100000 in
theorem impl_gcd.calls (k : Nat) (a0 : Int) (a1 : Int) (r : Int) (w : World) (h : impl_gcd.f k a0 a1 = some r) :
  Calls Try.prog 148 #[.int .i64 a0, .int .i64 a1] w fun e w' => e = .returned (.int .i64 r) ∧ Below w.heap.size w w' := by
 have HB := Aside0.mk (Below.refl w.heap.size w)
 unfold impl_gcd.f at h
 have H := h
 clear h
 have H' := Aside0.mk H
 clear H
 go_enter Try.func148, Try.ntmps148
 go_wp2
 repeat (go_quiet (fail); try go_wp2)
 go_loopg [0, 1] k (fun kq v0 v1 w' => ∃ (x0_1 : Int) (x1_1 : Int), v0 = .int .i64 x0_1 ∧ v1 = .int .i64 x1_1 ∧ Aside0 (impl_gcd.l0 kq x0_1 x1_1 = some r) ∧ Aside0 (kq ≤ k) ∧ Aside0 (Below w.heap.size w w'))
 case atStart => exact ⟨(a0), (a1), (by first | rfl | (simp; done) | (simp [*]; done)), (by first | rfl | (simp; done) | (simp [*]; done)), H', ⟨Nat.le_refl _⟩, ⟨bl⟩⟩
 case round =>
  clear H'
  obtain ⟨x0_1, x1_1, rfl, rfl, HA, HK1, HB⟩ := hrel
  cases gk with
  | zero => exact absurd HA.out (by simp [impl_gcd.l0])
  | succ k1 =>
   have H := HA.out
   clear HA
   simp only [impl_gcd.l0] at H
   replace H := ii H
   rcases H with ⟨c3, H⟩ | ⟨c3, H⟩
   ·obtain ⟨c3b0, c3b1⟩ := zz c3
    clear c3
    obtain ⟨ji4, hji4⟩ : ∃ j_ : Int, (mx x0_1 (wrap64 (-x0_1))) = j_ := ⟨_, rfl⟩
    replace H : (some ji4) = some r := by first | (rw [hji4] at H; exact H) | (simp only [hji4] at H ⊢; exact H)
    have hji4_ : (if x0_1 < (wrap64 (-x0_1)) then (wrap64 (-x0_1)) else x0_1) = ji4 := hji4
    obtain rfl := Option.some.inj H
    go_wp2
    repeat (go_quiet (fail); try go_wp2)
    go_ret
    exact ⟨by first | rfl | (simp [errW_none, errW_some] <;> rfl) | (simp only [← hji4]; first | rfl | (simp [errW_none, errW_some] <;> rfl)) | (simp [*, errW_none, errW_some] <;> rfl), bl⟩
   ·obtain ⟨c3b0, c3b1⟩ := zy c3
    have H' := Aside0.mk H
    clear H
    go_wp2
    repeat (go_quiet (fail); try go_wp2)
    go_roundg k1
    case measure => have := HK1.out; omega
    case rel => exact ⟨(x1_1), (Int.tmod x0_1 x1_1), (by first | rfl | (simp; done) | (simp [*]; done)), (by first | rfl | (simp; done) | (simp [*]; done)), H', ⟨by have := HK1.out; omega⟩, ⟨bl⟩⟩

/-! ### impl_IsEnd: function 122 -/
def impl_IsEnd.f (k : Nat) (a0_0 : Int) (a0_1 : Int) : Option (Bool) := if a0_1 = 0 then (some (a0_0 == 1)) else ((impl_within.f k 1000000 (([a0_0, a0_1] : List Int))).bind fun t689 => (if t689 = true then (if a0_1 > 0 then ((impl_gcd.f k a0_0 a0_1).bind fun t690 => (some (t690 == 1))) else (some false)) else (some false)))
set_option maxHeartbeats 8000000 in
set_option maxRecDepth 100000 in
theorem impl_IsEnd.calls (k : Nat) (a0_0 : Int) (a0_1 : Int) (r : Bool) (w : World) (h : impl_IsEnd.f k a0_0 a0_1 = some r) :
  Calls Try.prog 122 #[.agg #[.int .i64 a0_0, .int .i64 a0_1]] w fun e w' => e = .returned (.bool r) ∧ Below w.heap.size w w' := by
 have hu63 := Try.underlying63
 have HB := Aside0.mk (Below.refl w.heap.size w)
 unfold impl_IsEnd.f at h
 have H := h
 clear h
 replace H := ii H
 rcases H with ⟨c2, H⟩ | ⟨c2, H⟩
 ·obtain ⟨c2b0, c2b1⟩ := zz c2
  clear c2
  obtain rfl := Option.some.inj H
  go_enter Try.func122, Try.ntmps122
  go_wp2_with (first | ((with_reducible refine zg 1 rfl ?_); refine zb 1 63 #[.int .i64 a0_0, .int .i64 a0_1] ?_; intro gb685 hg w3 BK685 hb; have GW685 := sg hg; replace HB := bs hb; clear hb hg; obtain ⟨hcz4_0, hcz4_1, hfz4_0, hfz4_1⟩ := z2 BK685))
  go_ret
  exact ⟨er, bl⟩
 ·obtain ⟨c2b0, c2b1⟩ := zy c2
  obtain ⟨y686, hy686⟩ : ∃ y_ : List Int, y_ = (([a0_0, a0_1] : List Int)) := ⟨_, rfl⟩
  replace H : ((impl_within.f k 1000000 y686).bind fun t689 => (if t689 = true then (if a0_1 > 0 then ((impl_gcd.f k a0_0 a0_1).bind fun t690 => (some (t690 == 1))) else (some false)) else (some false))) = some r := by first | exact hy686 ▸ H | exact H
  have Ny686 := Aside0.mk hy686
  clear hy686
  replace H := zi H
  obtain ⟨t689, A5, H⟩ := H
  try dsimp only at H
  by_cases c6 : t689 = true
  ·subst c6
   rw [if_pos rfl] at H
   replace H := ii H
   rcases H with ⟨c7, H⟩ | ⟨c7, H⟩
   ·have c7b0 := decide_eq_true c7
    clear c7
    replace H := zi H
    obtain ⟨t690, A8, H⟩ := H
    try dsimp only at H
    obtain rfl := Option.some.inj H
    go_enter Try.func122, Try.ntmps122
    go_wp2_with (first | ((with_reducible refine zg 1 rfl ?_); refine zb 1 63 #[.int .i64 a0_0, .int .i64 a0_1] ?_; intro gb685 hg w9 BK685 hb; have GW685 := sg hg; replace HB := bs hb; clear hb hg; obtain ⟨hcz10_0, hcz10_1, hfz10_0, hfz10_1⟩ := z2 BK685) | ((with_reducible refine zg 13 rfl ?_); refine Kd.R_lit (Kd.int .i64) _ 2 ?hg (N := 13) ?hd (xs := ([a0_0, a0_1] : List Int)) (inner := [.int .i64 a0_0, .int .i64 a0_1]) (ok := fun _ => True) (okp := fun _ => True) ?hr ?hp (fun _ hk => hk) trivial (Below.refl _ _) (Nat.le_refl _) (by simp) ?_; (case hd => rfl); (case hg => rfl); (case hr => first | (go_simp; done) | (go_simp; rfl)); (case hp => exact (Reps.one (show Kd.M (Kd.int .i64) _ _ _ a0_0 [.int .i64 a0_0] from rfl) (Reps.one (show Kd.M (Kd.int .i64) _ _ _ a0_1 [.int .i64 a0_1] from rfl) (Reps.none _ _)))); intro v687 w11 ho12 hb hg_ hnew_; clear hg_ hnew_; (first | rw [← Ny686.out] at ho12 | (simp only [Int.reduceToNat] at ho12; rw [← Ny686.out] at ho12)); have HO688 := Aside0.mk (Kd.R_lower ho12 (below_size (bl))); replace BK685 := bb BK685 hb; replace HB := bs hb; clear hb ho12; obtain ⟨Ao13, co13, eo13⟩ := Kd.R_slice HO688.out; subst eo13) | ((with_reducible refine zf 127 rfl ?_); refine g1 (some 14) Try.func127 #[.int .i64 1000000, .slice Ao13 y686.length co13] ?_; (with_reducible refine (impl_within.calls k 1000000 _ _ y686 true _ ?side1 ?side2 A5.out).mono ?_); (case side1 => repeat (first | exact (Kd.R_reads' HO688.out).2.2 | (with_reducible refine Kd.C_alloc ?_ _) | (with_reducible refine Kd.C_drewN ?_ _) | (with_reducible refine Kd.C_drew ?_))); (case side2 => exact (Kd.R_reads' HO688.out).2.1); rintro e w' ⟨rfl, ⟨nd, rfl⟩⟩; refine ⟨_, rfl, ?_⟩; obtain ⟨hcz14_0, hcz14_1, hfz14_0, hfz14_1⟩ := z2 BK685) | (go_at_call 148; (with_reducible refine (impl_gcd.calls k a0_0 a0_1 t690 _ A8.out).mono ?_); rintro e w15 ⟨rfl, hb⟩; replace HO688 := Aside0.mk (Kd.R_below (by (with_reducible repeat (first | apply Kd.R_alloc | apply Kd.R_drewN | apply Kd.R_drew)); exact HO688.out) hb); replace BK685 := bb BK685 hb; replace HB := bs hb; (try clear hb)))
    go_ret
    exact ⟨er, bl⟩
   ·have c7b0 := decide_eq_false c7
    clear c7
    obtain rfl := Option.some.inj H
    go_enter Try.func122, Try.ntmps122
    go_wp2_with (first | ((with_reducible refine zg 1 rfl ?_); refine zb 1 63 #[.int .i64 a0_0, .int .i64 a0_1] ?_; intro gb685 hg w16 BK685 hb; have GW685 := sg hg; replace HB := bs hb; clear hb hg; obtain ⟨hcz17_0, hcz17_1, hfz17_0, hfz17_1⟩ := z2 BK685) | ((with_reducible refine zg 13 rfl ?_); refine Kd.R_lit (Kd.int .i64) _ 2 ?hg (N := 13) ?hd (xs := ([a0_0, a0_1] : List Int)) (inner := [.int .i64 a0_0, .int .i64 a0_1]) (ok := fun _ => True) (okp := fun _ => True) ?hr ?hp (fun _ hk => hk) trivial (Below.refl _ _) (Nat.le_refl _) (by simp) ?_; (case hd => rfl); (case hg => rfl); (case hr => first | (go_simp; done) | (go_simp; rfl)); (case hp => exact (Reps.one (show Kd.M (Kd.int .i64) _ _ _ a0_0 [.int .i64 a0_0] from rfl) (Reps.one (show Kd.M (Kd.int .i64) _ _ _ a0_1 [.int .i64 a0_1] from rfl) (Reps.none _ _)))); intro v687 w18 ho19 hb hg_ hnew_; clear hg_ hnew_; (first | rw [← Ny686.out] at ho19 | (simp only [Int.reduceToNat] at ho19; rw [← Ny686.out] at ho19)); have HO688 := Aside0.mk (Kd.R_lower ho19 (below_size (bl))); replace BK685 := bb BK685 hb; replace HB := bs hb; clear hb ho19; obtain ⟨Ao20, co20, eo20⟩ := Kd.R_slice HO688.out; subst eo20) | ((with_reducible refine zf 127 rfl ?_); refine g1 (some 14) Try.func127 #[.int .i64 1000000, .slice Ao20 y686.length co20] ?_; (with_reducible refine (impl_within.calls k 1000000 _ _ y686 true _ ?side1 ?side2 A5.out).mono ?_); (case side1 => repeat (first | exact (Kd.R_reads' HO688.out).2.2 | (with_reducible refine Kd.C_alloc ?_ _) | (with_reducible refine Kd.C_drewN ?_ _) | (with_reducible refine Kd.C_drew ?_))); (case side2 => exact (Kd.R_reads' HO688.out).2.1); rintro e w' ⟨rfl, ⟨nd, rfl⟩⟩; refine ⟨_, rfl, ?_⟩; obtain ⟨hcz21_0, hcz21_1, hfz21_0, hfz21_1⟩ := z2 BK685))
    go_ret
    exact ⟨er, bl⟩
  ·replace c6 := Bool.eq_false_iff.mpr c6
   subst c6
   have H1 : (some false) = some r := by rw [if_neg (show ¬ (false = true) by decide)] at H; exact H
   clear H
   have H := H1
   clear H1
   obtain rfl := Option.some.inj H
   go_enter Try.func122, Try.ntmps122
   go_wp2_with (first | ((with_reducible refine zg 1 rfl ?_); refine zb 1 63 #[.int .i64 a0_0, .int .i64 a0_1] ?_; intro gb685 hg w22 BK685 hb; have GW685 := sg hg; replace HB := bs hb; clear hb hg; obtain ⟨hcz23_0, hcz23_1, hfz23_0, hfz23_1⟩ := z2 BK685) | ((with_reducible refine zg 13 rfl ?_); refine Kd.R_lit (Kd.int .i64) _ 2 ?hg (N := 13) ?hd (xs := ([a0_0, a0_1] : List Int)) (inner := [.int .i64 a0_0, .int .i64 a0_1]) (ok := fun _ => True) (okp := fun _ => True) ?hr ?hp (fun _ hk => hk) trivial (Below.refl _ _) (Nat.le_refl _) (by simp) ?_; (case hd => rfl); (case hg => rfl); (case hr => first | (go_simp; done) | (go_simp; rfl)); (case hp => exact (Reps.one (show Kd.M (Kd.int .i64) _ _ _ a0_0 [.int .i64 a0_0] from rfl) (Reps.one (show Kd.M (Kd.int .i64) _ _ _ a0_1 [.int .i64 a0_1] from rfl) (Reps.none _ _)))); intro v687 w24 ho25 hb hg_ hnew_; clear hg_ hnew_; (first | rw [← Ny686.out] at ho25 | (simp only [Int.reduceToNat] at ho25; rw [← Ny686.out] at ho25)); have HO688 := Aside0.mk (Kd.R_lower ho25 (below_size (bl))); replace BK685 := bb BK685 hb; replace HB := bs hb; clear hb ho25; obtain ⟨Ao26, co26, eo26⟩ := Kd.R_slice HO688.out; subst eo26) | ((with_reducible refine zf 127 rfl ?_); refine g1 (some 14) Try.func127 #[.int .i64 1000000, .slice Ao26 y686.length co26] ?_; (with_reducible refine (impl_within.calls k 1000000 _ _ y686 false _ ?side1 ?side2 A5.out).mono ?_); (case side1 => repeat (first | exact (Kd.R_reads' HO688.out).2.2 | (with_reducible refine Kd.C_alloc ?_ _) | (with_reducible refine Kd.C_drewN ?_ _) | (with_reducible refine Kd.C_drew ?_))); (case side2 => exact (Kd.R_reads' HO688.out).2.1); rintro e w' ⟨rfl, ⟨nd, rfl⟩⟩; refine ⟨_, rfl, ?_⟩))
   go_ret
   exact ⟨er, bl⟩

end Go.Proofs.Ytpmepopagapeiaa.PFnMedians

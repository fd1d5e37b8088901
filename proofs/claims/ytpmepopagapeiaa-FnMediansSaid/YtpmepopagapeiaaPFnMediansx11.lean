-- Printed by the kit's print and repaired by a program of this session.
import Derived.Test.YtpmepopagapeiaaPFnMediansx0
import Derived.Test.YtpmepopagapeiaaPFnMediansx2
import Derived.Test.YtpmepopagapeiaaPFnMediansx4
import Derived.Test.YtpmepopagapeiaaPFnMediansx9
import Derived.Test.YtpmepopagapeiaaPFnMediansx10
namespace Go.Proofs.Ytpmepopagapeiaa.PFnMedians
open Go.RowKit Go.Proofs.YtpmepopagapeiaaW.PrintWords Go.Proofs.YtpmepopagapeiaaW.PrintLast Go.Proofs.YtpmepopagapeiaaW.PrintMore
attribute [local go_sem] max2_int min2_int max_two min_two max_three min_three max_four min_four
set_option linter.unusedVariables false
set_option linter.unusedSimpArgs false

/-! ### spec_l02Two: function 115 -/
mutual
def spec_l02Two.j0 : Nat → Int → Bool → List Int → Int → Int → Int → Int → Int → Int → Int → Int → Option (Int × Int × Int × Int × Int × Int × Int × Int × Int)
 | 0, _, _, _, _, _, _, _, _, _, _, _ => none
 | k + 1, x5, x31, x1000, x1001, x1002, x431000, x431001, x431002, x438000, x438001, x438002 => if x31 = true then ((spec_l01Next.f x1000 x1001 x1002 5).bind fun bt443 => (spec_l02Two.l0 k x5 bt443.1 x1000 bt443.2.1 bt443.2.2 x431000 x431001 x431002 x431000 x431001 x431002)) else ((spec_l01Bad.f x1000 x1001 x1002 x438000 x438001 x438002).bind fun bt459 => (some (x5, x431000, x431001, x431002, bt459.1, bt459.2.1, bt459.2.2.1, bt459.2.2.2.1, bt459.2.2.2.2)))
def spec_l02Two.l0 : Nat → Int → Int → List Int → Int → Int → Int → Int → Int → Int → Int → Int → Option (Int × Int × Int × Int × Int × Int × Int × Int × Int)
 | 0, _, _, _, _, _, _, _, _, _, _, _ => none
 | k + 1, x5, x8, x1000, x1001, x1002, x431000, x431001, x431002, x438000, x438001, x438002 => if x8 > 0 then ((spec_l02Near.f k x5 x438000 x438001 x438002).bind fun bt451 => (if bt451.2 = true then ((spec_l01Next.f x1000 x1001 x1002 (wrap64 (x5 + 1))).bind fun bt455 => (if 0 ≤ bt455.1 then (if bt455.1 < (bt451.1.length : Int) then (spec_l02Two.l0 k x5 (wrap64 (x8 - 1)) x1000 bt455.2.1 bt455.2.2 x431000 x431001 x431002 ((rd_T27 bt451.1 bt455.1).f0) ((rd_T27 bt451.1 bt455.1).f1) ((rd_T27 bt451.1 bt455.1).f2)) else (none)) else (none))) else (spec_l02Two.l0 k x5 (wrap64 (x8 - 1)) x1000 x1001 x1002 x431000 x431001 x431002 x438000 x438001 x438002))) else ((spec_l01Bad.f x1000 x1001 x1002 x438000 x438001 x438002).bind fun bt446 => (some (x5, x431000, x431001, x431002, bt446.1, bt446.2.1, bt446.2.2.1, bt446.2.2.2.1, bt446.2.2.2.2)))
end
def spec_l02Two.f (k : Nat) (s0_0 : List Int) (s0_1 : Int) (s0_2 : Int) : Option (Int × Int × Int × Int × Int × Int × Int × Int × Int) := (spec_l01Spoil.f k s0_0 s0_1 s0_2).bind fun bt424 => ((spec_l02Fine.f bt424.1).bind fun t431 => ((spec_l01Draw.f k s0_0 bt424.2.2.2.2.1 bt424.2.2.2.2.2 t431).bind fun bt432 => ((spec_l01Prime.f bt424.1).bind fun t438 => (if t438 = true then ((spec_l01Is.f k bt424.1 bt424.2.1 bt424.2.2.1 bt424.2.2.2.1).bind fun t439 => (if t439 = true then ((spec_l01Next.f s0_0 bt432.2.2.2.1 bt432.2.2.2.2 2).bind fun bt440 => (spec_l02Two.j0 k bt424.1 (bt440.1 == 0) s0_0 bt440.2.1 bt440.2.2 bt424.2.1 bt424.2.2.1 bt424.2.2.2.1 bt432.1 bt432.2.1 bt432.2.2.1)) else (spec_l02Two.j0 k bt424.1 false s0_0 bt432.2.2.2.1 bt432.2.2.2.2 bt424.2.1 bt424.2.2.1 bt424.2.2.2.1 bt432.1 bt432.2.1 bt432.2.2.1))) else (spec_l02Two.j0 k bt424.1 false s0_0 bt432.2.2.2.1 bt432.2.2.2.2 bt424.2.1 bt424.2.2.1 bt424.2.2.2.1 bt432.1 bt432.2.1 bt432.2.2.1)))))
def spec_l02Two.T11 : Bool × List (List Nat × List Nat) := (true, [([], []), ([], []), ([], []), ([], []), ([2, 3], [2, 3]), ([0, 4, 0], [0]), ([1, 5, 0, 1, 5], [1]), ([4, 6, 0, 1, 2, 3, 4, 5, 6], [4])])
def spec_l02Two.B11 : List Nat := [0, 0, 0, 0, 12, 29, 63, 127]
theorem spec_l02Two.tab11 : rtab .any (opsOf Try.f115 11) = spec_l02Two.T11 := by kernel_rfl
theorem spec_l02Two.bits11 : waitsOk spec_l02Two.T11.2 spec_l02Two.B11 = true := by kernel_rfl
set_option maxHeartbeats 8000000 in
set_option maxRecDepth 100000 in
theorem spec_l02Two.calls (k : Nat) (g : Nat) (s0_0 : List Int) (s0_1 : Int) (s0_2 : Int) (r1 : Int) (r2 : Int) (r3 : Int) (r4 : Int) (r5 : Int) (r6 : Int) (r7 : Int) (r8 : Int) (r9 : Int) (w0 w : World) (hI : IsS127 w0 w g s0_0 s0_1 s0_2) (hB : Below w0.heap.size w0 w) (h : spec_l02Two.f k s0_0 s0_1 s0_2 = some (r1, r2, r3, r4, r5, r6, r7, r8, r9)) :
  Calls Try.prog 115 #[.pointer (some ⟨g, 0, none⟩)] w fun e w' => e = .returned (.tuple #[.int .i64 r1, .agg #[.int .i64 r2, .int .i64 r3, .int .i64 r4], .agg #[.int .i64 r5, .int .i64 r6, .int .i64 r7]]) ∧ IsS127 w0 w' g s0_0 r8 r9 ∧ Below w0.heap.size w0 w' ∧ KeepBut w w' g none := by
 have hu27 := Try.underlying27
 have HI0 := Aside0.mk hI
 have HK := Aside0.mk (KeepBut.refl w g none)
 have HL := Aside0.mk hB.size
 clear hI
 have HW0 := Aside0.mk hB.size
 have HB := Aside0.mk hB
 clear hB
 unfold spec_l02Two.f at h
 have H := h
 clear h
 replace H := zi H
 obtain ⟨⟨t424, t425, t426, t427, t428, t429⟩, A2, H⟩ := H
 try dsimp only at H
 replace H := zi H
 obtain ⟨t431, A3, H⟩ := H
 try dsimp only at H
 replace H := zi H
 obtain ⟨⟨t432, t433, t434, t435, t436⟩, A4, H⟩ := H
 try dsimp only at H
 have HC5 := Aside0.mk H
 clear H
 go_enter Try.func115, Try.ntmps115
 go_upto_region 3 with (first | ((with_reducible refine zg 3 rfl ?_); refine z3 3 27 0 0 0 ?_; intro gb422 hg w6 BK422 hb; have GW422 := Aside0.mk ((by rw [hg]; exact (keep_size (w := w) (g := g) (row := none) (kl)) : w.heap.size ≤ gb422)); have GE422 := Aside0.mk ((Nat.le_trans HW0.out (by rw [hg]; exact (keep_size (w := w) (g := g) (row := none) (kl)) : w.heap.size ≤ gb422) : w0.heap.size ≤ gb422)); have NB0_422 := Aside0.mk ((by rw [hg]; exact Nat.ne_of_lt (IsS127.lt (IsS127.a : IsS127 w0 _ g s0_0 s0_1 s0_2)) : g ≠ gb422)); have NB422_0 := Aside0.mk ((by rw [hg]; exact Nat.ne_of_gt (IsS127.lt (IsS127.a : IsS127 w0 _ g s0_0 s0_1 s0_2)) : gb422 ≠ g)); replace HK := Aside0.mk (KeepBut.trans (kl) (KeepBut.of_below hb g none) (.inl rfl)); replace HB := Aside0.mk (below_step IsS127.b hb); replace HI0 := Aside0.mk (IsS127.below (IsS127.a) hb); clear hb hg) | ((with_reducible refine zg 4 rfl ?_); refine z3 4 27 0 0 0 ?_; intro gb423 hg w7 BK423 hb; have GW423 := Aside0.mk ((by rw [hg]; exact (keep_size (w := w) (g := g) (row := none) (kl)) : w.heap.size ≤ gb423)); have GE423 := Aside0.mk ((Nat.le_trans HW0.out (by rw [hg]; exact (keep_size (w := w) (g := g) (row := none) (kl)) : w.heap.size ≤ gb423) : w0.heap.size ≤ gb423)); have NB422_423 := nl hg BK422; have NB0_423 := Aside0.mk ((by rw [hg]; exact Nat.ne_of_lt (IsS127.lt (IsS127.a : IsS127 w0 _ g s0_0 s0_1 s0_2)) : g ≠ gb423)); have NB423_0 := Aside0.mk ((by rw [hg]; exact Nat.ne_of_gt (IsS127.lt (IsS127.a : IsS127 w0 _ g s0_0 s0_1 s0_2)) : gb423 ≠ g)); replace BK422 := bb BK422 hb; replace HK := Aside0.mk (KeepBut.trans (kl) (KeepBut.of_below hb g none) (.inl rfl)); replace HB := Aside0.mk (below_step IsS127.b hb); replace HI0 := Aside0.mk (IsS127.below (IsS127.a) hb); clear hb hg) | ((with_reducible refine zf 99 rfl ?_); refine g1 (some 13) Try.func99 #[.pointer (some ⟨g, 0, none⟩)] ?_; (with_reducible refine (spec_l01Spoil.calls k g s0_0 s0_1 s0_2 t424 t425 t426 t427 t428 t429 w0 _ ?side1 ?side2 A2.out).mono ?_); (case side1 => exact IsS127.a); (case side2 => exact IsS127.b); rintro e w8 ⟨rfl, hi, hb, hk⟩; refine ⟨_, rfl, ?_⟩; replace BK422 := kb hk BK422 NB422_0; replace BK423 := kb hk BK423 NB423_0; replace HK := Aside0.mk (KeepBut.trans (kl) hk (.inl rfl)); replace HI0 := Aside0.mk (hi); replace HB := Aside0.mk (hb); (try clear hb hk)) | ((with_reducible refine zg 6 rfl ?_); refine z3 6 27 0 0 0 ?_; intro gb430 hg w9 BK430 hb; have GW430 := Aside0.mk ((by rw [hg]; exact (keep_size (w := w) (g := g) (row := none) (kl)) : w.heap.size ≤ gb430)); have GE430 := Aside0.mk ((Nat.le_trans HW0.out (by rw [hg]; exact (keep_size (w := w) (g := g) (row := none) (kl)) : w.heap.size ≤ gb430) : w0.heap.size ≤ gb430)); have NB422_430 := nl hg BK422; have NB423_430 := nl hg BK423; have NB0_430 := Aside0.mk ((by rw [hg]; exact Nat.ne_of_lt (IsS127.lt (IsS127.a : IsS127 w0 _ g s0_0 t428 t429)) : g ≠ gb430)); have NB430_0 := Aside0.mk ((by rw [hg]; exact Nat.ne_of_gt (IsS127.lt (IsS127.a : IsS127 w0 _ g s0_0 t428 t429)) : gb430 ≠ g)); replace BK422 := bb BK422 hb; replace BK423 := bb BK423 hb; replace HK := Aside0.mk (KeepBut.trans (kl) (KeepBut.of_below hb g none) (.inl rfl)); replace HB := Aside0.mk (below_step IsS127.b hb); replace HI0 := Aside0.mk (IsS127.below (IsS127.a) hb); clear hb hg; obtain ⟨hnb10, hnc10⟩ := zm NB422_430; obtain ⟨hnb11, hnc11⟩ := zm NB423_430; have hnb12 := NB430_0.out; have hnc12 := NB0_430.out; obtain ⟨hcz13_0, hcz13_1, hcz13_2, hfz13_0, hfz13_1, hfz13_2⟩ := cq3 BK430) | ((with_reducible refine zf 117 rfl ?_); refine g1 (some 18) Try.func117 #[.int .i64 t424] ?_; (with_reducible refine (spec_l02Fine.calls t424 t431 _ A3.out).mono ?_); rintro e w' ⟨rfl, ⟨nd, rfl⟩⟩; refine ⟨_, rfl, ?_⟩) | ((with_reducible refine zf 116 rfl ?_); refine g1 (some 19) Try.func116 #[.pointer (some ⟨g, 0, none⟩), .int .i64 t431] ?_; (with_reducible refine (spec_l01Draw.calls k g s0_0 t428 t429 t431 t432 t433 t434 t435 t436 w0 _ ?side1 ?side2 A4.out).mono ?_); (case side1 => exact IsS127.a); (case side2 => exact IsS127.b); rintro e w14 ⟨rfl, hi, hb, hk⟩; refine ⟨_, rfl, ?_⟩; replace BK422 := Aside0.mk (KeepBut.blk hk (g' := gb422) (o := .cells #[.int .i64 0, .int .i64 0, .int .i64 0] 27 (0, 0)) (bp) NB422_0.out (by simp)); replace BK423 := Aside0.mk (KeepBut.blk hk (g' := gb423) (o := .cells #[.int .i64 0, .int .i64 0, .int .i64 0] 27 (0, 0)) (bp) NB423_0.out (by simp)); replace BK430 := Aside0.mk (KeepBut.blk hk (g' := gb430) (o := .cells #[.int .i64 t425, .int .i64 t426, .int .i64 t427] 27 (0, 0)) (bp) NB430_0.out (by simp)); replace HK := Aside0.mk (KeepBut.trans (kl) hk (.inl rfl)); replace HI0 := Aside0.mk (hi); replace HB := Aside0.mk (hb); (try clear hb hk)) | ((with_reducible refine zg 7 rfl ?_); refine z3 7 27 0 0 0 ?_; intro gb437 hg w15 BK437 hb; have GW437 := Aside0.mk ((by rw [hg]; exact (keep_size (w := w) (g := g) (row := none) (kl)) : w.heap.size ≤ gb437)); have GE437 := Aside0.mk ((Nat.le_trans HW0.out (by rw [hg]; exact (keep_size (w := w) (g := g) (row := none) (kl)) : w.heap.size ≤ gb437) : w0.heap.size ≤ gb437)); have NB422_437 := nl hg BK422; have NB423_437 := nl hg BK423; have NB430_437 := nl hg BK430; have NB0_437 := Aside0.mk ((by rw [hg]; exact Nat.ne_of_lt (IsS127.lt (IsS127.a : IsS127 w0 _ g s0_0 t435 t436)) : g ≠ gb437)); have NB437_0 := Aside0.mk ((by rw [hg]; exact Nat.ne_of_gt (IsS127.lt (IsS127.a : IsS127 w0 _ g s0_0 t435 t436)) : gb437 ≠ g)); replace BK422 := bb BK422 hb; replace BK423 := bb BK423 hb; replace BK430 := bb BK430 hb; replace HK := Aside0.mk (KeepBut.trans (kl) (KeepBut.of_below hb g none) (.inl rfl)); replace HB := Aside0.mk (below_step IsS127.b hb); replace HI0 := Aside0.mk (IsS127.below (IsS127.a) hb); clear hb hg; obtain ⟨hnb16, hnc16⟩ := zm NB422_437; obtain ⟨hnb17, hnc17⟩ := zm NB423_437; obtain ⟨hnb18, hnc18⟩ := zm NB430_437; have hnb19 := NB437_0.out; have hnc19 := NB0_437.out; obtain ⟨hcz20_0, hcz20_1, hcz20_2, hfz20_0, hfz20_1, hfz20_2⟩ := cq3 BK437))
 (try simp only [Act.put, zq, zr, zt])
 go_cut [31] (fun v31 wc => ∃ (kq : Nat) (x31_4 : Bool) (x1001_4 : Int) (x1002_4 : Int), v31 = .bool x31_4 ∧ Aside0 (spec_l02Two.j0 kq t424 x31_4 s0_0 x1001_4 x1002_4 t425 t426 t427 t432 t433 t434 = some (r1, r2, r3, r4, r5, r6, r7, r8, r9)) ∧ Aside0 (kq ≤ k) ∧ Aside0 (wc.heap[gb422]? = some (.cells #[.int .i64 0, .int .i64 0, .int .i64 0] 27 (0, 0))) ∧ Aside0 (wc.heap[gb423]? = some (.cells #[.int .i64 0, .int .i64 0, .int .i64 0] 27 (0, 0))) ∧ Aside0 (wc.heap[gb430]? = some (.cells #[.int .i64 t425, .int .i64 t426, .int .i64 t427] 27 (0, 0))) ∧ Aside0 (wc.heap[gb437]? = some (.cells #[.int .i64 t432, .int .i64 t433, .int .i64 t434] 27 (0, 0))) ∧ Aside0 (IsS127 w0 wc g s0_0 x1001_4 x1002_4) ∧ Aside0 (KeepBut w wc g none) ∧ Aside0 (Below w0.heap.size w0 wc))
 case first =>
  have H := HC5.out
  clear HC5
  replace H := zi H
  obtain ⟨t438, A21, H⟩ := H
  try dsimp only at H
  by_cases c22 : t438 = true
  ·subst c22
   rw [if_pos rfl] at H
   replace H := zi H
   obtain ⟨t439, A23, H⟩ := H
   try dsimp only at H
   by_cases c24 : t439 = true
   ·subst c24
    rw [if_pos rfl] at H
    replace H := zi H
    obtain ⟨⟨t440, t441, t442⟩, A25, H⟩ := H
    try dsimp only at H
    have H' := Aside0.mk H
    clear H
    go_wp2_with (first | ((with_reducible refine zf 120 rfl ?_); refine g1 (some 21) Try.func120 #[.int .i64 t424] ?_; (with_reducible refine (spec_l01Prime.calls t424 true _ A21.out).mono ?_); rintro e w' ⟨rfl, ⟨nd, rfl⟩⟩; refine ⟨_, rfl, ?_⟩; obtain ⟨hnb26, hnc26⟩ := zm NB422_430; obtain ⟨hnb27, hnc27⟩ := zm NB423_430; obtain ⟨hnb28, hnc28⟩ := zn NB430_437; have hnb29 := NB430_0.out; have hnc29 := NB0_430.out; obtain ⟨hcz30_0, hcz30_1, hcz30_2, hfz30_0, hfz30_1, hfz30_2⟩ := cq3 BK430) | (go_at_call 134; (with_reducible refine (spec_l01Is.calls k t424 t425 t426 t427 true _ A23.out).mono ?_); rintro e w31 ⟨rfl, hb⟩; replace BK422 := Aside0.mk (blk_below (g := gb422) (o := .cells #[.int .i64 0, .int .i64 0, .int .i64 0] 27 (0, 0)) (bp) hb); replace BK423 := Aside0.mk (blk_below (g := gb423) (o := .cells #[.int .i64 0, .int .i64 0, .int .i64 0] 27 (0, 0)) (bp) hb); replace BK430 := Aside0.mk (blk_below (g := gb430) (o := .cells #[.int .i64 t425, .int .i64 t426, .int .i64 t427] 27 (0, 0)) (bp) hb); replace BK437 := Aside0.mk (blk_below (g := gb437) (o := .cells #[.int .i64 t432, .int .i64 t433, .int .i64 t434] 27 (0, 0)) (bp) hb); replace HK := Aside0.mk (KeepBut.trans (kl) (KeepBut.of_below hb g none) (.inl rfl)); replace HB := Aside0.mk (below_step IsS127.b hb); replace HI0 := Aside0.mk (IsS127.below (IsS127.a : IsS127 w0 _ g s0_0 t435 t436) hb); (try clear hb)) | (go_at_call 101; (with_reducible refine (spec_l01Next.calls g s0_0 t435 t436 2 t440 t441 t442 w0 _ ?side1 ?side2 A25.out).mono ?_); (case side1 => exact IsS127.a); (case side2 => exact IsS127.b); rintro e w32 ⟨rfl, hi, hb, hk⟩; replace BK422 := kb hk BK422 NB422_0; replace BK423 := kb hk BK423 NB423_0; replace BK430 := kb hk BK430 NB430_0; replace BK437 := kb hk BK437 NB437_0; replace HK := Aside0.mk (KeepBut.trans (kl) hk (.inl rfl)); replace HI0 := Aside0.mk (hi); replace HB := Aside0.mk (hb); (try clear hb hk)))
    go_meet
    case rel => exact ⟨_, ((t440 == 0)), (t441), (t442), (by first | rfl | (simp; done) | (simp [*]; done)), H', ⟨by first | omega | exact Nat.le_refl _⟩, ⟨be BK422⟩, ⟨be BK423⟩, ⟨be BK430⟩, ⟨be BK437⟩, ⟨IsS127.a⟩, ⟨kl⟩, ⟨IsS127.b⟩⟩
   ·replace c24 := Bool.eq_false_iff.mpr c24
    subst c24
    have H1 : (spec_l02Two.j0 k t424 false s0_0 t435 t436 t425 t426 t427 t432 t433 t434) = some (r1, r2, r3, r4, r5, r6, r7, r8, r9) := by rw [if_neg (show ¬ (false = true) by decide)] at H; exact H
    clear H
    have H := H1
    clear H1
    have H' := Aside0.mk H
    clear H
    go_wp2_with (first | ((with_reducible refine zf 120 rfl ?_); refine g1 (some 21) Try.func120 #[.int .i64 t424] ?_; (with_reducible refine (spec_l01Prime.calls t424 true _ A21.out).mono ?_); rintro e w' ⟨rfl, ⟨nd, rfl⟩⟩; refine ⟨_, rfl, ?_⟩; obtain ⟨hnb33, hnc33⟩ := zm NB422_430; obtain ⟨hnb34, hnc34⟩ := zm NB423_430; obtain ⟨hnb35, hnc35⟩ := zn NB430_437; have hnb36 := NB430_0.out; have hnc36 := NB0_430.out; obtain ⟨hcz37_0, hcz37_1, hcz37_2, hfz37_0, hfz37_1, hfz37_2⟩ := cq3 BK430) | (go_at_call 134; (with_reducible refine (spec_l01Is.calls k t424 t425 t426 t427 false _ A23.out).mono ?_); rintro e w38 ⟨rfl, hb⟩; replace BK422 := Aside0.mk (blk_below (g := gb422) (o := .cells #[.int .i64 0, .int .i64 0, .int .i64 0] 27 (0, 0)) (bp) hb); replace BK423 := Aside0.mk (blk_below (g := gb423) (o := .cells #[.int .i64 0, .int .i64 0, .int .i64 0] 27 (0, 0)) (bp) hb); replace BK430 := Aside0.mk (blk_below (g := gb430) (o := .cells #[.int .i64 t425, .int .i64 t426, .int .i64 t427] 27 (0, 0)) (bp) hb); replace BK437 := Aside0.mk (blk_below (g := gb437) (o := .cells #[.int .i64 t432, .int .i64 t433, .int .i64 t434] 27 (0, 0)) (bp) hb); replace HK := Aside0.mk (KeepBut.trans (kl) (KeepBut.of_below hb g none) (.inl rfl)); replace HB := Aside0.mk (below_step IsS127.b hb); replace HI0 := Aside0.mk (IsS127.below (IsS127.a : IsS127 w0 _ g s0_0 t435 t436) hb); (try clear hb)))
    go_meet
    case rel => exact ⟨_, (false), (t435), (t436), (by first | rfl | (simp; done) | (simp [*]; done)), H', ⟨by first | omega | exact Nat.le_refl _⟩, ⟨be BK422⟩, ⟨be BK423⟩, ⟨be BK430⟩, ⟨be BK437⟩, ⟨IsS127.a⟩, ⟨kl⟩, ⟨IsS127.b⟩⟩
  ·replace c22 := Bool.eq_false_iff.mpr c22
   subst c22
   have H1 : (spec_l02Two.j0 k t424 false s0_0 t435 t436 t425 t426 t427 t432 t433 t434) = some (r1, r2, r3, r4, r5, r6, r7, r8, r9) := by rw [if_neg (show ¬ (false = true) by decide)] at H; exact H
   clear H
   have H := H1
   clear H1
   have H' := Aside0.mk H
   clear H
   go_wp2_with (first | ((with_reducible refine zf 120 rfl ?_); refine g1 (some 21) Try.func120 #[.int .i64 t424] ?_; (with_reducible refine (spec_l01Prime.calls t424 false _ A21.out).mono ?_); rintro e w' ⟨rfl, ⟨nd, rfl⟩⟩; refine ⟨_, rfl, ?_⟩))
   go_meet
   case rel => exact ⟨_, (false), (t435), (t436), (by first | rfl | (simp; done) | (simp [*]; done)), H', ⟨by first | omega | exact Nat.le_refl _⟩, ⟨bp⟩, ⟨bp⟩, ⟨bp⟩, ⟨bp⟩, ⟨IsS127.a⟩, ⟨kl⟩, ⟨IsS127.b⟩⟩
 case rest =>
  clear HC5
  obtain ⟨kq, x31_4, x1001_4, x1002_4, rfl, HA, HJ4, BK422, BK423, BK430, BK437, HI0, HK, HB⟩ := hcut
  cases kq with
  | zero => exact absurd HA.out (by simp [spec_l02Two.j0])
  | succ kj4 =>
   have H := HA.out
   clear HA
   simp only [spec_l02Two.j0] at H
   by_cases c39 : x31_4 = true
   ·subst c39
    rw [if_pos rfl] at H
    replace H := zi H
    obtain ⟨⟨t443, t444, t445⟩, A40, H⟩ := H
    try dsimp only at H
    have H' := Aside0.mk H
    clear H
    obtain ⟨hnb41, hnc41⟩ := zm NB422_430
    obtain ⟨hnb42, hnc42⟩ := zm NB423_430
    obtain ⟨hnb43, hnc43⟩ := zn NB430_437
    have hnb44 := NB430_0.out
    have hnc44 := NB0_430.out
    obtain ⟨hcz45_0, hcz45_1, hcz45_2, hfz45_0, hfz45_1, hfz45_2⟩ := cq3 BK430
    obtain ⟨hnb46, hnc46⟩ := zm NB422_437
    obtain ⟨hnb47, hnc47⟩ := zm NB423_437
    have hnb48 := NB437_0.out
    have hnc48 := NB0_437.out
    obtain ⟨hcz49_0, hcz49_1, hcz49_2, hfz49_0, hfz49_1, hfz49_2⟩ := cq3 BK437
    go_wp2_with (first | ((with_reducible refine zf 101 rfl ?_); refine g1 (some 34) Try.func101 #[.pointer (some ⟨g, 0, none⟩), .int .i64 5] ?_; (with_reducible refine (spec_l01Next.calls g s0_0 x1001_4 x1002_4 5 t443 t444 t445 w0 _ ?side1 ?side2 A40.out).mono ?_); (case side1 => exact IsS127.a); (case side2 => exact IsS127.b); rintro e w50 ⟨rfl, hi, hb, hk⟩; refine ⟨_, rfl, ?_⟩; replace BK422 := Aside0.mk (KeepBut.blk hk (g' := gb422) (o := .cells #[.int .i64 0, .int .i64 0, .int .i64 0] 27 (0, 0)) (bp) NB422_0.out (by simp)); replace BK423 := Aside0.mk (KeepBut.blk hk (g' := gb423) (o := .cells #[.int .i64 0, .int .i64 0, .int .i64 0] 27 (0, 0)) (bp) NB423_0.out (by simp)); replace BK430 := Aside0.mk (KeepBut.blk hk (g' := gb430) (o := .cells #[.int .i64 t425, .int .i64 t426, .int .i64 t427] 27 (0, 0)) (bp) NB430_0.out (by simp)); replace BK437 := Aside0.mk (KeepBut.blk hk (g' := gb437) (o := .cells #[.int .i64 t425, .int .i64 t426, .int .i64 t427] 27 (0, 0)) (bp) NB437_0.out (by simp)); replace HK := Aside0.mk (KeepBut.trans (kl) hk (.inl rfl)); replace HI0 := Aside0.mk (hi); replace HB := Aside0.mk (hb); (try clear hb hk)))
    go_loopg [8] kj4 (fun kq v8 w' => ∃ (x8_2 : Int) (x1001_2 : Int) (x1002_2 : Int) (x438000_2 : Int) (x438001_2 : Int) (x438002_2 : Int), v8 = .int .i64 x8_2 ∧ Aside0 (spec_l02Two.l0 kq t424 x8_2 s0_0 x1001_2 x1002_2 t425 t426 t427 x438000_2 x438001_2 x438002_2 = some (r1, r2, r3, r4, r5, r6, r7, r8, r9)) ∧ Aside0 (kq ≤ kj4) ∧ Aside0 (w'.heap[gb422]? = some (.cells #[.int .i64 0, .int .i64 0, .int .i64 0] 27 (0, 0))) ∧ Aside0 (w'.heap[gb423]? = some (.cells #[.int .i64 0, .int .i64 0, .int .i64 0] 27 (0, 0))) ∧ Aside0 (w'.heap[gb430]? = some (.cells #[.int .i64 t425, .int .i64 t426, .int .i64 t427] 27 (0, 0))) ∧ Aside0 (w'.heap[gb437]? = some (.cells #[.int .i64 x438000_2, .int .i64 x438001_2, .int .i64 x438002_2] 27 (0, 0))) ∧ Aside0 (IsS127 w0 w' g s0_0 x1001_2 x1002_2) ∧ Aside0 (KeepBut w w' g none) ∧ Aside0 (Below w0.heap.size w0 w'))
    case atStart => exact ⟨(t443), (t444), (t445), (t425), (t426), (t427), (by first | rfl | (simp; done) | (simp [*]; done)), H', ⟨Nat.le_refl _⟩, ⟨be BK422⟩, ⟨be BK423⟩, ⟨be BK430⟩, ⟨be BK437⟩, ⟨IsS127.a⟩, ⟨kl⟩, ⟨IsS127.b⟩⟩
    case round =>
     clear H'
     obtain ⟨x8_2, x1001_2, x1002_2, x438000_2, x438001_2, x438002_2, rfl, HA, HK2, BK422, BK423, BK430, BK437, HI0, HK, HB⟩ := hrel
     cases gk with
     | zero => exact absurd HA.out (by simp [spec_l02Two.l0])
     | succ k2 =>
      have H := HA.out
      clear HA
      simp only [spec_l02Two.l0] at H
      replace H := ii H
      rcases H with ⟨c51, H⟩ | ⟨c51, H⟩
      ·have c51b0 := decide_eq_true c51
       clear c51
       replace H := zi H
       obtain ⟨⟨t451, t454⟩, A52, H⟩ := H
       try dsimp only at H
       by_cases c53 : t454 = true
       ·subst c53
        rw [if_pos rfl] at H
        replace H := zi H
        obtain ⟨⟨t455, t456, t457⟩, A54, H⟩ := H
        try dsimp only at H
        replace H := ii H
        rcases H with ⟨c55, H⟩ | ⟨c55, H⟩
        ·have c55b0 := decide_eq_true c55
         clear c55
         replace H := ii H
         rcases H with ⟨c56, H⟩ | ⟨c56, H⟩
         ·have c56b0 := decide_eq_true c56
          clear c56
          have H' := Aside0.mk H
          clear H
          obtain ⟨hnb57, hnc57⟩ := zm NB422_437
          obtain ⟨hnb58, hnc58⟩ := zm NB423_437
          obtain ⟨hnb59, hnc59⟩ := zm NB430_437
          have hnb60 := NB437_0.out
          have hnc60 := NB0_437.out
          obtain ⟨hcz61_0, hcz61_1, hcz61_2, hfz61_0, hfz61_1, hfz61_2⟩ := cq3 BK437
          go_wp2_with (first | ((with_reducible refine zf 86 rfl ?_); refine g1 (some 42) Try.func86 #[.int .i64 t424, .agg #[.int .i64 x438000_2, .int .i64 x438001_2, .int .i64 x438002_2]] ?_; (with_reducible refine (spec_l02Near.calls k2 t424 x438000_2 x438001_2 x438002_2 t451 true _ A52.out).mono ?_); rintro e w62 ⟨v452, rfl, ho0, hb⟩; refine ⟨_, rfl, ?_⟩; have HO453 := Aside0.mk (Kd.R_lower (Kd.R_newB (Kd.R_newB (Kd.R_newB (Kd.R_newB ho0 (g := gb422) (o := .cells #[.int .i64 0, .int .i64 0, .int .i64 0] 27 (0, 0)) (be BK422)) (g := gb423) (o := .cells #[.int .i64 0, .int .i64 0, .int .i64 0] 27 (0, 0)) (be BK423)) (g := gb430) (o := .cells #[.int .i64 t425, .int .i64 t426, .int .i64 t427] 27 (0, 0)) (be BK430)) (g := gb437) (o := .cells #[.int .i64 x438000_2, .int .i64 x438001_2, .int .i64 x438002_2] 27 (0, 0)) (be BK437)) (keep_size (w := w) (g := g) (row := none) (kl))); replace BK422 := bb BK422 hb; replace BK423 := bb BK423 hb; replace BK430 := bb BK430 hb; replace BK437 := bb BK437 hb; replace HK := Aside0.mk (KeepBut.trans (kl) (KeepBut.of_below hb g none) (.inl rfl)); replace HB := Aside0.mk (below_step IsS127.b hb); replace HI0 := Aside0.mk (IsS127.below (IsS127.a) hb); (try clear hb); (try clear hb2); (try clear hk); (try clear hi); (try clear ho0)) | ((with_reducible refine zf 101 rfl ?_); refine g1 (some 50) Try.func101 #[.pointer (some ⟨g, 0, none⟩), .int .i64 (wrap64 (t424 + 1))] ?_; (with_reducible refine (spec_l01Next.calls g s0_0 x1001_2 x1002_2 (wrap64 (t424 + 1)) t455 t456 t457 w0 _ ?side1 ?side2 A54.out).mono ?_); (case side1 => exact IsS127.a); (case side2 => exact IsS127.b); rintro e w63 ⟨rfl, hi, hb, hk⟩; refine ⟨_, rfl, ?_⟩; replace BK422 := kb hk BK422 NB422_0; replace BK423 := kb hk BK423 NB423_0; replace BK430 := kb hk BK430 NB430_0; replace BK437 := kb hk BK437 NB437_0; replace HO453 := Aside0.mk (Kd.R_mono (Kd.R_keep (IsS127.apart (IsS127.a : IsS127 w0 _ g s0_0 x1001_2 x1002_2) (by (with_reducible repeat (first | apply Kd.R_alloc | apply Kd.R_drewN | apply Kd.R_drew)); exact HO453.out) (by decide)) hk (fun _ h => h.2)) (fun _ h => h.1)); replace HK := Aside0.mk (KeepBut.trans (kl) hk (.inl rfl)); replace HI0 := Aside0.mk (hi); replace HB := Aside0.mk (hb); (try clear hb hk); obtain ⟨Ao64, co64, eo64⟩ := Kd.R_slice HO453.out; subst eo64; have p458 : 0 ≤ (t455 : Int) := of_decide_eq_true (by first | (with_reducible assumption) | assumption); have q458 : t455 < (t451.length : Int) := of_decide_eq_true (by first | (with_reducible assumption) | assumption); obtain ⟨ad458, e458, hx458_0, hx458_1, hx458_2⟩ := at_T27 (Kd.R_reads' HO453.out).2.2 t455 p458 q458; cases e458; replace p458 := eq_true p458; replace q458 := eq_true q458; obtain ⟨hcz65_0, hcz65_1, hcz65_2, hfz65_0, hfz65_1, hfz65_2⟩ := cq3 BK437))
          go_roundg k2
          case measure => have := HJ4.out; have := HK2.out; omega
          case rel => exact ⟨(wrap64 (x8_2 - 1)), (t456), (t457), ((rd_T27 t451 t455).f0), ((rd_T27 t451 t455).f1), ((rd_T27 t451 t455).f2), (by first | rfl | (simp; done) | (simp [*]; done)), H', ⟨by have := HJ4.out; have := HK2.out; omega⟩, ⟨bp⟩, ⟨bp⟩, ⟨bp⟩, ⟨bp⟩, ⟨IsS127.a⟩, ⟨kl⟩, ⟨IsS127.b⟩⟩
         ·exact absurd H (by simp)
        ·exact absurd H (by simp)
       ·replace c53 := Bool.eq_false_iff.mpr c53
        subst c53
        have H1 : (spec_l02Two.l0 k2 t424 (wrap64 (x8_2 - 1)) s0_0 x1001_2 x1002_2 t425 t426 t427 x438000_2 x438001_2 x438002_2) = some (r1, r2, r3, r4, r5, r6, r7, r8, r9) := by rw [if_neg (show ¬ (false = true) by decide)] at H; exact H
        clear H
        have H := H1
        clear H1
        have H' := Aside0.mk H
        clear H
        obtain ⟨hnb66, hnc66⟩ := zm NB422_437
        obtain ⟨hnb67, hnc67⟩ := zm NB423_437
        obtain ⟨hnb68, hnc68⟩ := zm NB430_437
        have hnb69 := NB437_0.out
        have hnc69 := NB0_437.out
        obtain ⟨hcz70_0, hcz70_1, hcz70_2, hfz70_0, hfz70_1, hfz70_2⟩ := cq3 BK437
        go_wp2_with (first | ((with_reducible refine zf 86 rfl ?_); refine g1 (some 42) Try.func86 #[.int .i64 t424, .agg #[.int .i64 x438000_2, .int .i64 x438001_2, .int .i64 x438002_2]] ?_; (with_reducible refine (spec_l02Near.calls k2 t424 x438000_2 x438001_2 x438002_2 t451 false _ A52.out).mono ?_); rintro e w71 ⟨v452, rfl, ho0, hb⟩; refine ⟨_, rfl, ?_⟩; have HO453 := Aside0.mk (Kd.R_lower (Kd.R_newB (Kd.R_newB (Kd.R_newB (Kd.R_newB ho0 (g := gb422) (o := .cells #[.int .i64 0, .int .i64 0, .int .i64 0] 27 (0, 0)) (be BK422)) (g := gb423) (o := .cells #[.int .i64 0, .int .i64 0, .int .i64 0] 27 (0, 0)) (be BK423)) (g := gb430) (o := .cells #[.int .i64 t425, .int .i64 t426, .int .i64 t427] 27 (0, 0)) (be BK430)) (g := gb437) (o := .cells #[.int .i64 x438000_2, .int .i64 x438001_2, .int .i64 x438002_2] 27 (0, 0)) (be BK437)) (keep_size (w := w) (g := g) (row := none) (kl))); replace BK422 := bb BK422 hb; replace BK423 := bb BK423 hb; replace BK430 := bb BK430 hb; replace BK437 := bb BK437 hb; replace HK := Aside0.mk (KeepBut.trans (kl) (KeepBut.of_below hb g none) (.inl rfl)); replace HB := Aside0.mk (below_step IsS127.b hb); replace HI0 := Aside0.mk (IsS127.below (IsS127.a) hb); (try clear hb); (try clear hb2); (try clear hk); (try clear hi); (try clear ho0)))
        go_roundg k2
        case measure => have := HJ4.out; have := HK2.out; omega
        case rel => exact ⟨(wrap64 (x8_2 - 1)), (x1001_2), (x1002_2), (x438000_2), (x438001_2), (x438002_2), (by first | rfl | (simp; done) | (simp [*]; done)), H', ⟨by have := HJ4.out; have := HK2.out; omega⟩, ⟨be BK422⟩, ⟨be BK423⟩, ⟨be BK430⟩, ⟨be BK437⟩, ⟨IsS127.a⟩, ⟨kl⟩, ⟨IsS127.b⟩⟩
      ·have c51b0 := decide_eq_false c51
       clear c51
       replace H := zi H
       obtain ⟨⟨t446, t447, t448, t449, t450⟩, A72, H⟩ := H
       try dsimp only at H
       simp only [Option.some.injEq, Prod.mk.injEq] at H
       obtain ⟨rfl, rfl, rfl, rfl, rfl, rfl, rfl, rfl, rfl⟩ := H
       try go_wp2
       replace BK422 := Aside0.mk (blk_drew BK422.out)
       replace BK423 := Aside0.mk (blk_drew BK423.out)
       replace BK430 := Aside0.mk (blk_drew BK430.out)
       replace BK437 := Aside0.mk (blk_drew BK437.out)
       replace HI0 := Aside0.mk (IsS127.drew HI0.out)
       replace HK := Aside0.mk (keep_drew HK.out)
       replace HB := Aside0.mk (below_drew1 HB.out)
       refine sw 8 (fun w' => w'.cell? ⟨gb430, 0, none⟩ = some (.int .i64 t425) ∧ w'.cell? ⟨gb430, 1, none⟩ = some (.int .i64 t426) ∧ w'.cell? ⟨gb430, 2, none⟩ = some (.int .i64 t427) ∧ w'.cell? ⟨gb437, 0, none⟩ = some (.int .i64 x438000_2) ∧ w'.cell? ⟨gb437, 1, none⟩ = some (.int .i64 x438001_2) ∧ w'.cell? ⟨gb437, 2, none⟩ = some (.int .i64 x438002_2)) spec_l02Two.tab11 spec_l02Two.bits11 (e3r BK430 (e3 BK437)) (fun hHeld HT_ HW_ => ?_)
       generalize wr.drew = w73 at BK422 BK423 BK430 BK437 HI0 HK HB hHeld ⊢
       refine pu 0 (some 53) (tA 8 1) HT_ ?_
       refine pu 2 (some 55) (tA 8 5) HT_ ?_
       refine tk6 1 (some 54) (tA 8 7) HT_ HW_ hHeld ?_
       refine tk6 3 (some 56) (tA 8 15) HT_ HW_ hHeld ?_
       refine o1 4 (some 57) (tA 8 31) HT_ (fun K hK => ?_)
       refine gs Try.func142 #[.pointer (some ⟨g, 0, none⟩), .agg #[.int .i64 x438000_2, .int .i64 x438001_2, .int .i64 x438002_2]] ?_
       with_reducible refine (spec_l01Bad.calls g s0_0 x1001_2 x1002_2 x438000_2 x438001_2 x438002_2 t446 t447 t448 t449 t450 w0 _ ?side1 ?side2 A72.out).mono ?_
       (case side1 => exact IsS127.a)
       (case side2 => exact IsS127.b)
       rintro e w74 ⟨rfl, hi, hb, hk⟩
       refine ⟨_, rfl, ?_⟩
       replace BK422 := kb hk BK422 NB422_0
       replace BK423 := kb hk BK423 NB423_0
       replace BK430 := kb hk BK430 NB430_0
       replace BK437 := kb hk BK437 NB437_0
       replace HK := Aside0.mk (KeepBut.trans (kl) hk (.inl rfl))
       replace HI0 := Aside0.mk (hi)
       replace HB := Aside0.mk (hb)
       (try clear hb)
       (try clear hb2)
       (try clear hk)
       (try clear hi)
       refine hK.out _ _ (e3r BK430 (e3 BK437)) (fun hHeld => ?_)
       clear hK K
       refine nm (some 57) ?_
       refine pu 5 (some 2) (tA 8 63) HT_ ?_
       refine o1 6 none (tA 8 127) HT_ (fun K hK => ?_)
       have hs75 : w74.cell? ⟨gb422, 0, none⟩ = some (.int .i64 0) := (blk_cell BK422.out 0).trans rfl
       have hfs75 := blk_frozen BK422.out 0
       have hns75_1 := NB422_423.out.symm
       have hns75_2 := NB422_430.out.symm
       have hns75_3 := NB422_437.out.symm
       have hms75_1 := NB422_423.out
       have hms75_2 := NB422_430.out
       have hms75_3 := NB422_437.out
       have hs76 : w74.cell? ⟨gb422, 1, none⟩ = some (.int .i64 0) := (blk_cell BK422.out 1).trans rfl
       have hfs76 := blk_frozen BK422.out 1
       have hns76_1 := NB422_423.out.symm
       have hns76_2 := NB422_430.out.symm
       have hns76_3 := NB422_437.out.symm
       have hms76_1 := NB422_423.out
       have hms76_2 := NB422_430.out
       have hms76_3 := NB422_437.out
       have hs77 : w74.cell? ⟨gb422, 2, none⟩ = some (.int .i64 0) := (blk_cell BK422.out 2).trans rfl
       have hfs77 := blk_frozen BK422.out 2
       have hns77_1 := NB422_423.out.symm
       have hns77_2 := NB422_430.out.symm
       have hns77_3 := NB422_437.out.symm
       have hms77_1 := NB422_423.out
       have hms77_2 := NB422_430.out
       have hms77_3 := NB422_437.out
       refine skip_ (w1 := ?_) (by rfl) rfl ?_ ?_
       rotate_left
       ·go_simp
        rfl
       refine hK.out _ _ (m3r hHeld (fun e => cs gb422 NB422_430 (cs gb422 NB422_430 (cs gb422 NB422_430 e))) (m3 hHeld.2.2.2 (fun e => cs gb422 NB422_437 (cs gb422 NB422_437 (cs gb422 NB422_437 e))))) (fun hHeld => ?_)
       clear hK K
       refine o1 7 none (tA 8 255) HT_ (fun K hK => ?_)
       have hs78 : w74.cell? ⟨gb423, 0, none⟩ = some (.int .i64 0) := (blk_cell BK423.out 0).trans rfl
       have hfs78 := blk_frozen BK423.out 0
       have hns78_0 := NB422_423.out
       have hns78_2 := NB423_430.out.symm
       have hns78_3 := NB423_437.out.symm
       have hms78_0 := NB422_423.out.symm
       have hms78_2 := NB423_430.out
       have hms78_3 := NB423_437.out
       have hs79 : w74.cell? ⟨gb423, 1, none⟩ = some (.int .i64 0) := (blk_cell BK423.out 1).trans rfl
       have hfs79 := blk_frozen BK423.out 1
       have hns79_0 := NB422_423.out
       have hns79_2 := NB423_430.out.symm
       have hns79_3 := NB423_437.out.symm
       have hms79_0 := NB422_423.out.symm
       have hms79_2 := NB423_430.out
       have hms79_3 := NB423_437.out
       have hs80 : w74.cell? ⟨gb423, 2, none⟩ = some (.int .i64 0) := (blk_cell BK423.out 2).trans rfl
       have hfs80 := blk_frozen BK423.out 2
       have hns80_0 := NB422_423.out
       have hns80_2 := NB423_430.out.symm
       have hns80_3 := NB423_437.out.symm
       have hms80_0 := NB422_423.out.symm
       have hms80_2 := NB423_430.out
       have hms80_3 := NB423_437.out
       refine skip_ (w1 := ?_) (by rfl) rfl ?_ ?_
       rotate_left
       ·go_simp
        rfl
       refine hK.out _ _ (m3r hHeld (fun e => cs gb423 NB423_430 (cs gb423 NB423_430 (cs gb423 NB423_430 e))) (m3 hHeld.2.2.2 (fun e => cs gb423 NB423_437 (cs gb423 NB423_437 (cs gb423 NB423_437 e))))) (fun hHeld => ?_)
       clear hK K
       refine done_ (done_of HT_.out (by kernel_rfl)) ?_
       try go_wp2
       refine bodyPost_ret (results_list (rs := [.tmp 2, .cell 3 27, .cell 4 27]) rfl (by simp) (.tmp (.cell gb422 27 #[.int .i64 t425, .int .i64 t426, .int .i64 t427] (0, 0) _ rfl (bp) Try.underlying27 rfl (by kernel_rfl) (.cell gb423 27 #[.int .i64 t446, .int .i64 t447, .int .i64 t448] (0, 0) _ rfl (bp) Try.underlying27 rfl (by kernel_rfl) .nil)))) rfl ?_
       exact ⟨er, IsS127.a, IsS127.b, kl⟩
   ·replace c39 := Bool.eq_false_iff.mpr c39
    subst c39
    have H1 : ((spec_l01Bad.f s0_0 x1001_4 x1002_4 t432 t433 t434).bind fun bt459 => (some (t424, t425, t426, t427, bt459.1, bt459.2.1, bt459.2.2.1, bt459.2.2.2.1, bt459.2.2.2.2))) = some (r1, r2, r3, r4, r5, r6, r7, r8, r9) := by rw [if_neg (show ¬ (false = true) by decide)] at H; exact H
    clear H
    have H := H1
    clear H1
    replace H := zi H
    obtain ⟨⟨t459, t460, t461, t462, t463⟩, A81, H⟩ := H
    try dsimp only at H
    simp only [Option.some.injEq, Prod.mk.injEq] at H
    obtain ⟨rfl, rfl, rfl, rfl, rfl, rfl, rfl, rfl, rfl⟩ := H
    try go_wp2
    replace BK422 := Aside0.mk (blk_drew BK422.out)
    replace BK423 := Aside0.mk (blk_drew BK423.out)
    replace BK430 := Aside0.mk (blk_drew BK430.out)
    replace BK437 := Aside0.mk (blk_drew BK437.out)
    replace HI0 := Aside0.mk (IsS127.drew HI0.out)
    replace HK := Aside0.mk (keep_drew HK.out)
    replace HB := Aside0.mk (below_drew1 HB.out)
    refine sw 8 (fun w' => w'.cell? ⟨gb430, 0, none⟩ = some (.int .i64 t425) ∧ w'.cell? ⟨gb430, 1, none⟩ = some (.int .i64 t426) ∧ w'.cell? ⟨gb430, 2, none⟩ = some (.int .i64 t427) ∧ w'.cell? ⟨gb437, 0, none⟩ = some (.int .i64 t432) ∧ w'.cell? ⟨gb437, 1, none⟩ = some (.int .i64 t433) ∧ w'.cell? ⟨gb437, 2, none⟩ = some (.int .i64 t434)) spec_l02Two.tab11 spec_l02Two.bits11 (e3r BK430 (e3 BK437)) (fun hHeld HT_ HW_ => ?_)
    generalize wc.drew = w82 at BK422 BK423 BK430 BK437 HI0 HK HB hHeld ⊢
    refine pu 0 (some 53) (tA 8 1) HT_ ?_
    refine pu 2 (some 55) (tA 8 5) HT_ ?_
    refine tk6 1 (some 54) (tA 8 7) HT_ HW_ hHeld ?_
    refine tk6 3 (some 56) (tA 8 15) HT_ HW_ hHeld ?_
    refine o1 4 (some 57) (tA 8 31) HT_ (fun K hK => ?_)
    refine gs Try.func142 #[.pointer (some ⟨g, 0, none⟩), .agg #[.int .i64 t432, .int .i64 t433, .int .i64 t434]] ?_
    with_reducible refine (spec_l01Bad.calls g s0_0 x1001_4 x1002_4 t432 t433 t434 t459 t460 t461 t462 t463 w0 _ ?side1 ?side2 A81.out).mono ?_
    (case side1 => exact IsS127.a)
    (case side2 => exact IsS127.b)
    rintro e w83 ⟨rfl, hi, hb, hk⟩
    refine ⟨_, rfl, ?_⟩
    replace BK422 := kb hk BK422 NB422_0
    replace BK423 := kb hk BK423 NB423_0
    replace BK430 := kb hk BK430 NB430_0
    replace BK437 := kb hk BK437 NB437_0
    replace HK := Aside0.mk (KeepBut.trans (kl) hk (.inl rfl))
    replace HI0 := Aside0.mk (hi)
    replace HB := Aside0.mk (hb)
    (try clear hb)
    (try clear hb2)
    (try clear hk)
    (try clear hi)
    refine hK.out _ _ (e3r BK430 (e3 BK437)) (fun hHeld => ?_)
    clear hK K
    refine nm (some 57) ?_
    refine pu 5 (some 2) (tA 8 63) HT_ ?_
    refine o1 6 none (tA 8 127) HT_ (fun K hK => ?_)
    have hs84 : w83.cell? ⟨gb422, 0, none⟩ = some (.int .i64 0) := (blk_cell BK422.out 0).trans rfl
    have hfs84 := blk_frozen BK422.out 0
    have hns84_1 := NB422_423.out.symm
    have hns84_2 := NB422_430.out.symm
    have hns84_3 := NB422_437.out.symm
    have hms84_1 := NB422_423.out
    have hms84_2 := NB422_430.out
    have hms84_3 := NB422_437.out
    have hs85 : w83.cell? ⟨gb422, 1, none⟩ = some (.int .i64 0) := (blk_cell BK422.out 1).trans rfl
    have hfs85 := blk_frozen BK422.out 1
    have hns85_1 := NB422_423.out.symm
    have hns85_2 := NB422_430.out.symm
    have hns85_3 := NB422_437.out.symm
    have hms85_1 := NB422_423.out
    have hms85_2 := NB422_430.out
    have hms85_3 := NB422_437.out
    have hs86 : w83.cell? ⟨gb422, 2, none⟩ = some (.int .i64 0) := (blk_cell BK422.out 2).trans rfl
    have hfs86 := blk_frozen BK422.out 2
    have hns86_1 := NB422_423.out.symm
    have hns86_2 := NB422_430.out.symm
    have hns86_3 := NB422_437.out.symm
    have hms86_1 := NB422_423.out
    have hms86_2 := NB422_430.out
    have hms86_3 := NB422_437.out
    refine skip_ (w1 := ?_) (by rfl) rfl ?_ ?_
    rotate_left
    ·go_simp
     rfl
    refine hK.out _ _ (m3r hHeld (fun e => cs gb422 NB422_430 (cs gb422 NB422_430 (cs gb422 NB422_430 e))) (m3 hHeld.2.2.2 (fun e => cs gb422 NB422_437 (cs gb422 NB422_437 (cs gb422 NB422_437 e))))) (fun hHeld => ?_)
    clear hK K
    refine o1 7 none (tA 8 255) HT_ (fun K hK => ?_)
    have hs87 : w83.cell? ⟨gb423, 0, none⟩ = some (.int .i64 0) := (blk_cell BK423.out 0).trans rfl
    have hfs87 := blk_frozen BK423.out 0
    have hns87_0 := NB422_423.out
    have hns87_2 := NB423_430.out.symm
    have hns87_3 := NB423_437.out.symm
    have hms87_0 := NB422_423.out.symm
    have hms87_2 := NB423_430.out
    have hms87_3 := NB423_437.out
    have hs88 : w83.cell? ⟨gb423, 1, none⟩ = some (.int .i64 0) := (blk_cell BK423.out 1).trans rfl
    have hfs88 := blk_frozen BK423.out 1
    have hns88_0 := NB422_423.out
    have hns88_2 := NB423_430.out.symm
    have hns88_3 := NB423_437.out.symm
    have hms88_0 := NB422_423.out.symm
    have hms88_2 := NB423_430.out
    have hms88_3 := NB423_437.out
    have hs89 : w83.cell? ⟨gb423, 2, none⟩ = some (.int .i64 0) := (blk_cell BK423.out 2).trans rfl
    have hfs89 := blk_frozen BK423.out 2
    have hns89_0 := NB422_423.out
    have hns89_2 := NB423_430.out.symm
    have hns89_3 := NB423_437.out.symm
    have hms89_0 := NB422_423.out.symm
    have hms89_2 := NB423_430.out
    have hms89_3 := NB423_437.out
    refine skip_ (w1 := ?_) (by rfl) rfl ?_ ?_
    rotate_left
    ·go_simp
     rfl
    refine hK.out _ _ (m3r hHeld (fun e => cs gb423 NB423_430 (cs gb423 NB423_430 (cs gb423 NB423_430 e))) (m3 hHeld.2.2.2 (fun e => cs gb423 NB423_437 (cs gb423 NB423_437 (cs gb423 NB423_437 e))))) (fun hHeld => ?_)
    clear hK K
    refine done_ (done_of HT_.out (by kernel_rfl)) ?_
    try go_wp2
    refine bodyPost_ret (results_list (rs := [.tmp 2, .cell 3 27, .cell 4 27]) rfl (by simp) (.tmp (.cell gb422 27 #[.int .i64 t425, .int .i64 t426, .int .i64 t427] (0, 0) _ rfl (bp) Try.underlying27 rfl (by kernel_rfl) (.cell gb423 27 #[.int .i64 t459, .int .i64 t460, .int .i64 t461] (0, 0) _ rfl (bp) Try.underlying27 rfl (by kernel_rfl) .nil)))) rfl ?_
    exact ⟨er, IsS127.a, IsS127.b, kl⟩

end Go.Proofs.Ytpmepopagapeiaa.PFnMedians

-- Printed by the kit's print and repaired by a program of this session.
import Derived.Test.YtpmepopagapeiaaPFnBallsx0
import Derived.Test.YtpmepopagapeiaaPFnBallsx3
import Derived.Test.YtpmepopagapeiaaPFnBallsx5
import Derived.Test.YtpmepopagapeiaaPFnBallsx7
import Derived.Test.YtpmepopagapeiaaPFnBallsx8
import Derived.Test.YtpmepopagapeiaaPFnBallsx9
import Derived.Test.YtpmepopagapeiaaPFnBallsx10
namespace Go.Proofs.Ytpmepopagapeiaa.PFnBalls
open Go.RowKit Go.Proofs.YtpmepopagapeiaaW.PrintWords Go.Proofs.YtpmepopagapeiaaW.PrintLast Go.Proofs.YtpmepopagapeiaaW.PrintMore
attribute [local go_sem] max2_int min2_int max_two min_two max_three min_three max_four min_four
set_option linter.unusedVariables false
set_option linter.unusedSimpArgs false

/-! ### impl_CentreOf: function 67 -/
def impl_CentreOf.f (k : Nat) (a0 : Int) (a1_0 : Int) (a1_1 : Int) (a1_2 : Int) : Option (Int × Int × Int) := (impl_IsBall.f k a0 a1_0 a1_1 a1_2).bind fun t422 => (if t422 = true then ((impl_power.f k a0 a1_2).bind fun t423 => ((impl_endAt.f k a1_1 t423).bind fun bt424 => ((impl_fittedEnd.f bt424.1 bt424.2.1 bt424.2.2).bind fun bt427 => (some (bt427.1, bt427.2.1, bt427.2.2))))) else (some (0, 0, 1)))
def impl_CentreOf.T3 : Bool × List (List Nat × List Nat) := (true, [([], []), ([0], [0]), ([], []), ([], []), ([3], [3]), ([2, 4], [2, 4]), ([1, 5, 5], [1, 5]), ([6], [6]), ([6], [6]), ([7, 8, 6], [7, 8]), ([9], [9]), ([9], [9]), ([10, 9, 0, 1, 2, 3, 4, 5, 6, 7, 8, 9, 10, 11], [10]), ([11, 12, 0, 1, 2, 3, 4, 5, 6, 7, 8, 9, 10, 11, 12], [11])])
def impl_CentreOf.B3 : List Nat := [0, 1, 0, 0, 8, 28, 63, 127, 127, 511, 1023, 1023, 4095, 8191]
theorem impl_CentreOf.tab3 : rtab .any (opsOf Try.f67 3) = impl_CentreOf.T3 := by kernel_rfl
theorem impl_CentreOf.bits3 : waitsOk impl_CentreOf.T3.2 impl_CentreOf.B3 = true := by kernel_rfl
set_option maxHeartbeats 8000000 in
set_option maxRecDepth 100000 in
theorem impl_CentreOf.calls (k : Nat) (a0 : Int) (a1_0 : Int) (a1_1 : Int) (a1_2 : Int) (r1 : Int) (r2 : Int) (r3 : Int) (w : World) (h : impl_CentreOf.f k a0 a1_0 a1_1 a1_2 = some (r1, r2, r3)) :
  Calls Try.prog 67 #[.int .i64 a0, .agg #[.int .i64 a1_0, .int .i64 a1_1, .int .i64 a1_2]] w fun e w' => e = .returned (.tuple #[.agg #[.int .i64 r1, .int .i64 r2], .int .i64 r3]) ∧ Below w.heap.size w w' := by
 have hu27 := Try.underlying27
 have hu63 := Try.underlying63
 have HB := Aside0.mk (Below.refl w.heap.size w)
 unfold impl_CentreOf.f at h
 have H := h
 clear h
 replace H := zi H
 obtain ⟨t422, A3, H⟩ := H
 try dsimp only at H
 by_cases c4 : t422 = true
 ·subst c4
  rw [if_pos rfl] at H
  replace H := zi H
  obtain ⟨t423, A5, H⟩ := H
  try dsimp only at H
  replace H := zi H
  obtain ⟨⟨t424, t425, t426⟩, A6, H⟩ := H
  try dsimp only at H
  replace H := zi H
  obtain ⟨⟨t427, t428, t429⟩, A7, H⟩ := H
  try dsimp only at H
  simp only [Option.some.injEq, Prod.mk.injEq] at H
  obtain ⟨rfl, rfl, rfl⟩ := H
  go_enter Try.func67, Try.ntmps67
  try go_wp2_with (first | ((with_reducible refine zg 3 rfl ?_); refine z3 3 27 a1_0 a1_1 a1_2 ?_; intro gb420 hg w8 BK420 hb; have GW420 := sg hg; replace HB := bs hb; clear hb hg) | ((with_reducible refine zg 4 rfl ?_); refine zb 4 63 #[.int .i64 0, .int .i64 0] ?_; intro gb421 hg w9 BK421 hb; have GW421 := sg hg; have NB420_421 := nl hg BK420; replace BK420 := bb BK420 hb; replace HB := bs hb; clear hb hg; obtain ⟨hnb10, hnc10⟩ := zn NB420_421; obtain ⟨hcz11_0, hcz11_1, hcz11_2, hfz11_0, hfz11_1, hfz11_2⟩ := cq3 BK420) | ((with_reducible refine zf 65 rfl ?_); refine g1 (some 8) Try.func65 #[.int .i64 a0, .agg #[.int .i64 a1_0, .int .i64 a1_1, .int .i64 a1_2]] ?_; (with_reducible refine (impl_IsBall.calls k a0 a1_0 a1_1 a1_2 true _ A3.out).mono ?_); rintro e w12 ⟨rfl, hb⟩; refine ⟨_, rfl, ?_⟩; replace BK420 := bb BK420 hb; replace BK421 := bb BK421 hb; replace HB := bs hb; (try clear hb)))
  replace BK420 := Aside0.mk (blk_drew BK420.out)
  replace BK421 := Aside0.mk (blk_drew BK421.out)
  replace HB := Aside0.mk (below_drew1 HB.out)
  refine sw 14 (fun w' => w'.cell? ⟨gb420, 0, none⟩ = some (.int .i64 a1_0) ∧ w'.cell? ⟨gb420, 1, none⟩ = some (.int .i64 a1_1) ∧ w'.cell? ⟨gb420, 2, none⟩ = some (.int .i64 a1_2)) impl_CentreOf.tab3 impl_CentreOf.bits3 (e3 BK420) (fun hHeld HT_ HW_ => ?_)
  generalize w12.drew = w13 at BK420 BK421 HB hHeld ⊢
  refine pu 0 (some 11) (tA 14 1) HT_ ?_
  refine pu 2 (some 13) (tA 14 5) HT_ ?_
  refine pu 3 (some 14) (tA 14 13) HT_ ?_
  refine tk3 1 (some 12) (tA 14 15) HT_ HW_ hHeld ?_
  refine tk3 4 (some 15) (tA 14 31) HT_ HW_ hHeld ?_
  refine o1 5 (some 16) (tA 14 63) HT_ (fun K hK => ?_)
  refine gs Try.func103 #[.int .i64 a0, .int .i64 a1_2] ?_
  with_reducible refine (impl_power.calls k a0 a1_2 t423 _ A5.out).mono ?_
  rintro e w' ⟨rfl, ⟨nd, rfl⟩⟩
  refine ⟨_, rfl, ?_⟩
  refine hK.out _ _ (e3 BK420) (fun hHeld => ?_)
  clear hK K
  refine nm (some 16) ?_
  refine o1 6 (some 17) (tA 14 127) HT_ (fun K hK => ?_)
  refine gs Try.func132 #[.int .i64 a1_1, .int .i64 t423] ?_
  with_reducible refine (impl_endAt.calls k a1_1 t423 t424 t425 t426 _ A6.out).mono ?_
  rintro e w14 ⟨rfl, hb⟩
  refine ⟨_, rfl, ?_⟩
  replace BK420 := bb BK420 hb
  replace BK421 := bb BK421 hb
  replace HB := bs hb
  (try clear hb)
  (try clear hb2)
  (try clear hk)
  (try clear hi)
  refine hK.out _ _ (e3 BK420) (fun hHeld => ?_)
  clear hK K
  refine nm (some 17) ?_
  refine pu 7 (some 18) (tA 14 255) HT_ ?_
  refine pu 8 (some 19) (tA 14 511) HT_ ?_
  refine o1 9 (some 20) (tA 14 1023) HT_ (fun K hK => ?_)
  refine gs Try.func131 #[.agg #[.int .i64 t424, .int .i64 t425], .bool t426] ?_
  with_reducible refine (impl_fittedEnd.calls t424 t425 t426 t427 t428 t429 _ A7.out).mono ?_
  rintro e w15 ⟨rfl, hb⟩
  refine ⟨_, rfl, ?_⟩
  replace BK420 := bb BK420 hb
  replace BK421 := bb BK421 hb
  replace HB := bs hb
  (try clear hb)
  (try clear hb2)
  (try clear hk)
  (try clear hi)
  refine hK.out _ _ (e3 BK420) (fun hHeld => ?_)
  clear hK K
  refine nm (some 20) ?_
  refine pu 10 (some 21) (tA 14 2047) HT_ ?_
  refine pu 11 (some 22) (tA 14 4095) HT_ ?_
  refine o1 12 none (tA 14 8191) HT_ (fun K hK => ?_)
  have hs16 : w15.cell? ⟨gb421, 0, none⟩ = some (.int .i64 0) := (blk_cell BK421.out 0).trans rfl
  have hfs16 := blk_frozen BK421.out 0
  obtain ⟨hns16_0, hms16_0⟩ := zn NB420_421
  have hs17 : w15.cell? ⟨gb421, 1, none⟩ = some (.int .i64 0) := (blk_cell BK421.out 1).trans rfl
  have hfs17 := blk_frozen BK421.out 1
  obtain ⟨hns17_0, hms17_0⟩ := zn NB420_421
  refine skip_ (w1 := ?_) (by rfl) rfl ?_ ?_
  rotate_left
  ·go_simp
   rfl
  refine hK.out _ _ (m3 hHeld (fun e => cf gb421 NB420_421 (cf gb421 NB420_421 e))) (fun hHeld => ?_)
  clear hK K
  refine pu 13 (some 5) (tA 14 16383) HT_ ?_
  refine done_ (done_of HT_.out (by kernel_rfl)) ?_
  try go_wp2
  refine bodyPost_ret (results_ct rfl _ _ gb421 63 #[.int .i64 t427, .int .i64 t428] (0, 0) _ rfl (bp) Try.underlying63 rfl (by kernel_rfl)) rfl ?_
  exact ⟨er, bl⟩
 ·replace c4 := Bool.eq_false_iff.mpr c4
  subst c4
  have H1 : (some (0, 0, 1)) = some (r1, r2, r3) := by rw [if_neg (show ¬ (false = true) by decide)] at H; exact H
  clear H
  have H := H1
  clear H1
  simp only [Option.some.injEq, Prod.mk.injEq] at H
  obtain ⟨rfl, rfl, rfl⟩ := H
  go_enter Try.func67, Try.ntmps67
  go_wp2_with (first | ((with_reducible refine zg 3 rfl ?_); refine z3 3 27 a1_0 a1_1 a1_2 ?_; intro gb420 hg w18 BK420 hb; have GW420 := sg hg; replace HB := bs hb; clear hb hg) | ((with_reducible refine zg 4 rfl ?_); refine zb 4 63 #[.int .i64 0, .int .i64 0] ?_; intro gb421 hg w19 BK421 hb; have GW421 := sg hg; have NB420_421 := nl hg BK420; replace BK420 := bb BK420 hb; replace HB := bs hb; clear hb hg; obtain ⟨hnb20, hnc20⟩ := zn NB420_421; obtain ⟨hcz21_0, hcz21_1, hcz21_2, hfz21_0, hfz21_1, hfz21_2⟩ := cq3 BK420) | ((with_reducible refine zf 65 rfl ?_); refine g1 (some 8) Try.func65 #[.int .i64 a0, .agg #[.int .i64 a1_0, .int .i64 a1_1, .int .i64 a1_2]] ?_; (with_reducible refine (impl_IsBall.calls k a0 a1_0 a1_1 a1_2 false _ A3.out).mono ?_); rintro e w22 ⟨rfl, hb⟩; refine ⟨_, rfl, ?_⟩; replace BK420 := bb BK420 hb; replace BK421 := bb BK421 hb; replace HB := bs hb; (try clear hb); obtain ⟨hcz23_0, hcz23_1, hfz23_0, hfz23_1⟩ := z2 BK421))
  refine bodyPost_ret (results_ct rfl _ _ gb421 63 #[.int .i64 0, .int .i64 0] (0, 0) _ rfl (bp) Try.underlying63 rfl (by kernel_rfl)) rfl ?_
  exact ⟨er, bl⟩

/-! ### spec_l01Is: function 134 -/
def spec_l01Is.j0 : Nat → Int → Bool → Int → Int → Int → Option (Bool)
 | 0, _, _, _, _, _ => none
 | k + 1, x0, x20, x431000, x431001, x431002 => if x20 = true then (some false) else (if (wrap64 (x431000 + x431002)) ≤ 0 then (if x431001 = 0 then (some (x431002 == 0)) else (some false)) else ((spec_l01Power.f k x0 (wrap64 (x431000 + x431002))).bind fun t434 => ((spec_l01In.f x431001 0 (wrap64 (t434 - 1))).bind fun t435 => (if t435 = true then (if x431002 = 0 then (some true) else (if x0 = 0 then (none) else (some ((Int.tmod x431001 x0) != 0)))) else (some false)))))
def spec_l01Is.f (k : Nat) (a0 : Int) (a1_0 : Int) (a1_1 : Int) (a1_2 : Int) : Option (Bool) := (spec_l01Prime.f a0).bind fun t431 => (if t431 = true then ((spec_l01In.f a1_0 (-6) 6).bind fun t432 => (if t432 = true then ((spec_l01In.f a1_2 0 6).bind fun t433 => (spec_l01Is.j0 k a0 (!t433) a1_0 a1_1 a1_2)) else (spec_l01Is.j0 k a0 true a1_0 a1_1 a1_2))) else (spec_l01Is.j0 k a0 true a1_0 a1_1 a1_2))
set_option maxHeartbeats 8000000 in
set_option maxRecDepth 100000 in
theorem spec_l01Is.calls (k : Nat) (a0 : Int) (a1_0 : Int) (a1_1 : Int) (a1_2 : Int) (r : Bool) (w : World) (h : spec_l01Is.f k a0 a1_0 a1_1 a1_2 = some r) :
  Calls Try.prog 134 #[.int .i64 a0, .agg #[.int .i64 a1_0, .int .i64 a1_1, .int .i64 a1_2]] w fun e w' => e = .returned (.bool r) ∧ Below w.heap.size w w' := by
 have hu27 := Try.underlying27
 have HB := Aside0.mk (Below.refl w.heap.size w)
 unfold spec_l01Is.f at h
 have H := h
 clear h
 have HC3 := Aside0.mk H
 clear H
 go_enter Try.func134, Try.ntmps134
 go_upto_region 1 with (first | ((with_reducible refine zg 3 rfl ?_); refine z3 3 27 a1_0 a1_1 a1_2 ?_; intro gb430 hg w4 BK430 hb; have GW430 := sg hg; replace HB := bs hb; clear hb hg))
 repeat (go_quiet (first | ((with_reducible refine zg 3 rfl ?_); refine z3 3 27 a1_0 a1_1 a1_2 ?_; intro gb430 hg w4 BK430 hb; have GW430 := sg hg; replace HB := bs hb; clear hb hg)); go_upto_region 1 with (first | ((with_reducible refine zg 3 rfl ?_); refine z3 3 27 a1_0 a1_1 a1_2 ?_; intro gb430 hg w4 BK430 hb; have GW430 := sg hg; replace HB := bs hb; clear hb hg)))
 (try simp only [Act.put, zq, zr, zt])
 go_cut [20] (fun v20 wc => ∃ (kq : Nat) (x20_2 : Bool), v20 = .bool x20_2 ∧ Aside0 (spec_l01Is.j0 kq a0 x20_2 a1_0 a1_1 a1_2 = some r) ∧ Aside0 (kq ≤ k) ∧ Aside0 (wc.heap[gb430]? = some (.cells #[.int .i64 a1_0, .int .i64 a1_1, .int .i64 a1_2] 27 (0, 0))) ∧ Aside0 (Below w.heap.size w wc))
 case first =>
  have H := HC3.out
  clear HC3
  replace H := zi H
  obtain ⟨t431, A5, H⟩ := H
  try dsimp only at H
  by_cases c6 : t431 = true
  ·subst c6
   rw [if_pos rfl] at H
   replace H := zi H
   obtain ⟨t432, A7, H⟩ := H
   try dsimp only at H
   by_cases c8 : t432 = true
   ·subst c8
    rw [if_pos rfl] at H
    replace H := zi H
    obtain ⟨t433, A9, H⟩ := H
    try dsimp only at H
    have H' := Aside0.mk H
    clear H
    go_wp2_with (first | (go_at_call 120; (with_reducible refine (spec_l01Prime.calls a0 true _ A5.out).mono ?_); rintro e w' ⟨rfl, ⟨nd, rfl⟩⟩; (try first | exact zd | exact ze); obtain ⟨hcz10_0, hcz10_1, hcz10_2, hfz10_0, hfz10_1, hfz10_2⟩ := cq3 BK430) | (go_at_call 88; (with_reducible refine (spec_l01In.calls a1_0 (-6) 6 true _ A7.out).mono ?_); rintro e w' ⟨rfl, ⟨nd, rfl⟩⟩; (try first | exact zd | exact ze)) | (go_at_call 88; (with_reducible refine (spec_l01In.calls a1_2 0 6 t433 _ A9.out).mono ?_); rintro e w' ⟨rfl, ⟨nd, rfl⟩⟩; (try first | exact zd | exact ze)))
    repeat (go_quiet (first | (go_at_call 120; (with_reducible refine (spec_l01Prime.calls a0 true _ A5.out).mono ?_); rintro e w' ⟨rfl, ⟨nd, rfl⟩⟩; (try first | exact zd | exact ze); obtain ⟨hcz10_0, hcz10_1, hcz10_2, hfz10_0, hfz10_1, hfz10_2⟩ := cq3 BK430) | (go_at_call 88; (with_reducible refine (spec_l01In.calls a1_0 (-6) 6 true _ A7.out).mono ?_); rintro e w' ⟨rfl, ⟨nd, rfl⟩⟩; (try first | exact zd | exact ze)) | (go_at_call 88; (with_reducible refine (spec_l01In.calls a1_2 0 6 t433 _ A9.out).mono ?_); rintro e w' ⟨rfl, ⟨nd, rfl⟩⟩; (try first | exact zd | exact ze))); try go_wp2_with (first | (go_at_call 120; (with_reducible refine (spec_l01Prime.calls a0 true _ A5.out).mono ?_); rintro e w' ⟨rfl, ⟨nd, rfl⟩⟩; (try first | exact zd | exact ze); obtain ⟨hcz10_0, hcz10_1, hcz10_2, hfz10_0, hfz10_1, hfz10_2⟩ := cq3 BK430) | (go_at_call 88; (with_reducible refine (spec_l01In.calls a1_0 (-6) 6 true _ A7.out).mono ?_); rintro e w' ⟨rfl, ⟨nd, rfl⟩⟩; (try first | exact zd | exact ze)) | (go_at_call 88; (with_reducible refine (spec_l01In.calls a1_2 0 6 t433 _ A9.out).mono ?_); rintro e w' ⟨rfl, ⟨nd, rfl⟩⟩; (try first | exact zd | exact ze))))
    go_meet
    case rel => exact ⟨_, (!t433), (by first | rfl | (simp; done) | (simp [*]; done)), H', ⟨by first | omega | exact Nat.le_refl _⟩, ⟨be BK430⟩, ⟨bl⟩⟩
   ·replace c8 := Bool.eq_false_iff.mpr c8
    subst c8
    have H1 : (spec_l01Is.j0 k a0 true a1_0 a1_1 a1_2) = some r := by rw [if_neg (show ¬ (false = true) by decide)] at H; exact H
    clear H
    have H := H1
    clear H1
    have H' := Aside0.mk H
    clear H
    go_wp2_with (first | (go_at_call 120; (with_reducible refine (spec_l01Prime.calls a0 true _ A5.out).mono ?_); rintro e w' ⟨rfl, ⟨nd, rfl⟩⟩; (try first | exact zd | exact ze); obtain ⟨hcz11_0, hcz11_1, hcz11_2, hfz11_0, hfz11_1, hfz11_2⟩ := cq3 BK430) | (go_at_call 88; (with_reducible refine (spec_l01In.calls a1_0 (-6) 6 false _ A7.out).mono ?_); rintro e w' ⟨rfl, ⟨nd, rfl⟩⟩; (try first | exact zd | exact ze)))
    repeat (go_quiet (first | (go_at_call 120; (with_reducible refine (spec_l01Prime.calls a0 true _ A5.out).mono ?_); rintro e w' ⟨rfl, ⟨nd, rfl⟩⟩; (try first | exact zd | exact ze); obtain ⟨hcz11_0, hcz11_1, hcz11_2, hfz11_0, hfz11_1, hfz11_2⟩ := cq3 BK430) | (go_at_call 88; (with_reducible refine (spec_l01In.calls a1_0 (-6) 6 false _ A7.out).mono ?_); rintro e w' ⟨rfl, ⟨nd, rfl⟩⟩; (try first | exact zd | exact ze))); try go_wp2_with (first | (go_at_call 120; (with_reducible refine (spec_l01Prime.calls a0 true _ A5.out).mono ?_); rintro e w' ⟨rfl, ⟨nd, rfl⟩⟩; (try first | exact zd | exact ze); obtain ⟨hcz11_0, hcz11_1, hcz11_2, hfz11_0, hfz11_1, hfz11_2⟩ := cq3 BK430) | (go_at_call 88; (with_reducible refine (spec_l01In.calls a1_0 (-6) 6 false _ A7.out).mono ?_); rintro e w' ⟨rfl, ⟨nd, rfl⟩⟩; (try first | exact zd | exact ze))))
    go_meet
    case rel => exact ⟨_, (true), (by first | rfl | (simp; done) | (simp [*]; done)), H', ⟨by first | omega | exact Nat.le_refl _⟩, ⟨be BK430⟩, ⟨bl⟩⟩
  ·replace c6 := Bool.eq_false_iff.mpr c6
   subst c6
   have H1 : (spec_l01Is.j0 k a0 true a1_0 a1_1 a1_2) = some r := by rw [if_neg (show ¬ (false = true) by decide)] at H; exact H
   clear H
   have H := H1
   clear H1
   have H' := Aside0.mk H
   clear H
   go_wp2_with (first | (go_at_call 120; (with_reducible refine (spec_l01Prime.calls a0 false _ A5.out).mono ?_); rintro e w' ⟨rfl, ⟨nd, rfl⟩⟩; (try first | exact zd | exact ze)))
   repeat (go_quiet (first | (go_at_call 120; (with_reducible refine (spec_l01Prime.calls a0 false _ A5.out).mono ?_); rintro e w' ⟨rfl, ⟨nd, rfl⟩⟩; (try first | exact zd | exact ze))); try go_wp2_with (first | (go_at_call 120; (with_reducible refine (spec_l01Prime.calls a0 false _ A5.out).mono ?_); rintro e w' ⟨rfl, ⟨nd, rfl⟩⟩; (try first | exact zd | exact ze))))
   go_meet
   case rel => exact ⟨_, (true), (by first | rfl | (simp; done) | (simp [*]; done)), H', ⟨by first | omega | exact Nat.le_refl _⟩, ⟨be BK430⟩, ⟨bl⟩⟩
 case rest =>
  clear HC3
  obtain ⟨kq, x20_2, rfl, HA, HJ2, BK430, HB⟩ := hcut
  cases kq with
  | zero => exact absurd HA.out (by simp [spec_l01Is.j0])
  | succ kj2 =>
   have H := HA.out
   clear HA
   simp only [spec_l01Is.j0] at H
   by_cases c12 : x20_2 = true
   ·subst c12
    rw [if_pos rfl] at H
    obtain rfl := Option.some.inj H
    go_wp2
    repeat (go_quiet (fail); try go_wp2)
    go_ret
    exact ⟨er, bl⟩
   ·replace c12 := Bool.eq_false_iff.mpr c12
    subst c12
    have H1 : (if (wrap64 (a1_0 + a1_2)) ≤ 0 then (if a1_1 = 0 then (some (a1_2 == 0)) else (some false)) else ((spec_l01Power.f kj2 a0 (wrap64 (a1_0 + a1_2))).bind fun t434 => ((spec_l01In.f a1_1 0 (wrap64 (t434 - 1))).bind fun t435 => (if t435 = true then (if a1_2 = 0 then (some true) else (if a0 = 0 then (none) else (some ((Int.tmod a1_1 a0) != 0)))) else (some false))))) = some r := by rw [if_neg (show ¬ (false = true) by decide)] at H; exact H
    clear H
    have H := H1
    clear H1
    replace H := ii H
    rcases H with ⟨c13, H⟩ | ⟨c13, H⟩
    ·have c13b0 := decide_eq_true c13
     clear c13
     replace H := ii H
     rcases H with ⟨c14, H⟩ | ⟨c14, H⟩
     ·obtain ⟨c14b0, c14b1⟩ := zz c14
      clear c14
      obtain rfl := Option.some.inj H
      obtain ⟨hcz15_0, hcz15_1, hcz15_2, hfz15_0, hfz15_1, hfz15_2⟩ := cq3 BK430
      go_wp2
      repeat (go_quiet (fail); try go_wp2)
      go_ret
      exact ⟨er, bl⟩
     ·obtain ⟨c14b0, c14b1⟩ := zy c14
      obtain rfl := Option.some.inj H
      obtain ⟨hcz16_0, hcz16_1, hcz16_2, hfz16_0, hfz16_1, hfz16_2⟩ := cq3 BK430
      go_wp2
      repeat (go_quiet (fail); try go_wp2)
      go_ret
      exact ⟨er, bl⟩
    ·have c13b0 := decide_eq_false c13
     clear c13
     replace H := zi H
     obtain ⟨t434, A17, H⟩ := H
     try dsimp only at H
     replace H := zi H
     obtain ⟨t435, A18, H⟩ := H
     try dsimp only at H
     by_cases c19 : t435 = true
     ·subst c19
      rw [if_pos rfl] at H
      replace H := ii H
      rcases H with ⟨c20, H⟩ | ⟨c20, H⟩
      ·obtain ⟨c20b0, c20b1⟩ := zz c20
       clear c20
       obtain rfl := Option.some.inj H
       obtain ⟨hcz21_0, hcz21_1, hcz21_2, hfz21_0, hfz21_1, hfz21_2⟩ := cq3 BK430
       go_wp2_with (first | (go_at_call 96; (with_reducible refine (spec_l01Power.calls kj2 a0 (wrap64 (a1_0 + a1_2)) t434 _ A17.out).mono ?_); rintro e w' ⟨rfl, ⟨nd, rfl⟩⟩; (try first | exact zd | exact ze)) | (go_at_call 88; (with_reducible refine (spec_l01In.calls a1_1 0 (wrap64 (t434 - 1)) true _ A18.out).mono ?_); rintro e w' ⟨rfl, ⟨nd, rfl⟩⟩; (try first | exact zd | exact ze)))
       repeat (go_quiet (first | (go_at_call 96; (with_reducible refine (spec_l01Power.calls kj2 a0 (wrap64 (a1_0 + a1_2)) t434 _ A17.out).mono ?_); rintro e w' ⟨rfl, ⟨nd, rfl⟩⟩; (try first | exact zd | exact ze)) | (go_at_call 88; (with_reducible refine (spec_l01In.calls a1_1 0 (wrap64 (t434 - 1)) true _ A18.out).mono ?_); rintro e w' ⟨rfl, ⟨nd, rfl⟩⟩; (try first | exact zd | exact ze))); try go_wp2_with (first | (go_at_call 96; (with_reducible refine (spec_l01Power.calls kj2 a0 (wrap64 (a1_0 + a1_2)) t434 _ A17.out).mono ?_); rintro e w' ⟨rfl, ⟨nd, rfl⟩⟩; (try first | exact zd | exact ze)) | (go_at_call 88; (with_reducible refine (spec_l01In.calls a1_1 0 (wrap64 (t434 - 1)) true _ A18.out).mono ?_); rintro e w' ⟨rfl, ⟨nd, rfl⟩⟩; (try first | exact zd | exact ze))))
       go_ret
       exact ⟨er, bl⟩
      ·obtain ⟨c20b0, c20b1⟩ := zy c20
       replace H := ii H
       rcases H with ⟨c22, H⟩ | ⟨c22, H⟩
       ·exact absurd H (by simp)
       ·obtain ⟨c22b0, c22b1⟩ := zy c22
        obtain rfl := Option.some.inj H
        obtain ⟨hcz23_0, hcz23_1, hcz23_2, hfz23_0, hfz23_1, hfz23_2⟩ := cq3 BK430
        go_wp2_with (first | (go_at_call 96; (with_reducible refine (spec_l01Power.calls kj2 a0 (wrap64 (a1_0 + a1_2)) t434 _ A17.out).mono ?_); rintro e w' ⟨rfl, ⟨nd, rfl⟩⟩; (try first | exact zd | exact ze)) | (go_at_call 88; (with_reducible refine (spec_l01In.calls a1_1 0 (wrap64 (t434 - 1)) true _ A18.out).mono ?_); rintro e w' ⟨rfl, ⟨nd, rfl⟩⟩; (try first | exact zd | exact ze)))
        repeat (go_quiet (first | (go_at_call 96; (with_reducible refine (spec_l01Power.calls kj2 a0 (wrap64 (a1_0 + a1_2)) t434 _ A17.out).mono ?_); rintro e w' ⟨rfl, ⟨nd, rfl⟩⟩; (try first | exact zd | exact ze)) | (go_at_call 88; (with_reducible refine (spec_l01In.calls a1_1 0 (wrap64 (t434 - 1)) true _ A18.out).mono ?_); rintro e w' ⟨rfl, ⟨nd, rfl⟩⟩; (try first | exact zd | exact ze))); try go_wp2_with (first | (go_at_call 96; (with_reducible refine (spec_l01Power.calls kj2 a0 (wrap64 (a1_0 + a1_2)) t434 _ A17.out).mono ?_); rintro e w' ⟨rfl, ⟨nd, rfl⟩⟩; (try first | exact zd | exact ze)) | (go_at_call 88; (with_reducible refine (spec_l01In.calls a1_1 0 (wrap64 (t434 - 1)) true _ A18.out).mono ?_); rintro e w' ⟨rfl, ⟨nd, rfl⟩⟩; (try first | exact zd | exact ze))))
        go_ret
        exact ⟨er, bl⟩
     ·replace c19 := Bool.eq_false_iff.mpr c19
      subst c19
      have H1 : (some false) = some r := by rw [if_neg (show ¬ (false = true) by decide)] at H; exact H
      clear H
      have H := H1
      clear H1
      obtain rfl := Option.some.inj H
      obtain ⟨hcz24_0, hcz24_1, hcz24_2, hfz24_0, hfz24_1, hfz24_2⟩ := cq3 BK430
      go_wp2_with (first | (go_at_call 96; (with_reducible refine (spec_l01Power.calls kj2 a0 (wrap64 (a1_0 + a1_2)) t434 _ A17.out).mono ?_); rintro e w' ⟨rfl, ⟨nd, rfl⟩⟩; (try first | exact zd | exact ze)) | (go_at_call 88; (with_reducible refine (spec_l01In.calls a1_1 0 (wrap64 (t434 - 1)) false _ A18.out).mono ?_); rintro e w' ⟨rfl, ⟨nd, rfl⟩⟩; (try first | exact zd | exact ze)))
      repeat (go_quiet (first | (go_at_call 96; (with_reducible refine (spec_l01Power.calls kj2 a0 (wrap64 (a1_0 + a1_2)) t434 _ A17.out).mono ?_); rintro e w' ⟨rfl, ⟨nd, rfl⟩⟩; (try first | exact zd | exact ze)) | (go_at_call 88; (with_reducible refine (spec_l01In.calls a1_1 0 (wrap64 (t434 - 1)) false _ A18.out).mono ?_); rintro e w' ⟨rfl, ⟨nd, rfl⟩⟩; (try first | exact zd | exact ze))); try go_wp2_with (first | (go_at_call 96; (with_reducible refine (spec_l01Power.calls kj2 a0 (wrap64 (a1_0 + a1_2)) t434 _ A17.out).mono ?_); rintro e w' ⟨rfl, ⟨nd, rfl⟩⟩; (try first | exact zd | exact ze)) | (go_at_call 88; (with_reducible refine (spec_l01In.calls a1_1 0 (wrap64 (t434 - 1)) false _ A18.out).mono ?_); rintro e w' ⟨rfl, ⟨nd, rfl⟩⟩; (try first | exact zd | exact ze))))
      go_ret
      exact ⟨er, bl⟩

/-! ### spec_l01Code: function 81 -/
def spec_l01Code.l0 : Nat → Int → List (S27) → Int → Option (Int)
 | 0, _, _, _ => none
 | k + 1, x0, x1, x5 => if x5 < (x1.length : Int) then (if 0 ≤ x5 then ((spec_l01Is.f k x0 ((rd_T27 x1 x5).f0) ((rd_T27 x1 x5).f1) ((rd_T27 x1 x5).f2)).bind fun t438 => (if t438 = true then (spec_l01Code.l0 k x0 x1 (wrap64 (x5 + 1))) else (some 1))) else (none)) else (some 0)
def spec_l01Code.f (k : Nat) (a0 : Int) (l1 : List (S27)) : Option (Int) := (spec_l01Prime.f a0).bind fun t436 => (if t436 = true then (spec_l01Code.l0 k a0 l1 0) else (some 1))
set_option maxHeartbeats 8000000 in
set_option maxRecDepth 100000 in
theorem spec_l01Code.calls (k : Nat) (a0 : Int) (A1 : Option Addr) (c1 : Nat) (l1 : List (S27)) (r : Int) (w : World) (hr1 : Kd.C k27 w A1 l1.length l1) (hc1 : l1.length ≤ c1) (h : spec_l01Code.f k a0 l1 = some r) :
  Calls Try.prog 81 #[.int .i64 a0, .slice A1 l1.length c1] w fun e w' => e = .returned (.int .i64 r) ∧ Below w.heap.size w w' := by
 have hu27 := Try.underlying27
 have HR1 := Aside0.mk hr1
 have HC1 := Aside0.mk hc1
 clear hr1 hc1
 have HB := Aside0.mk (Below.refl w.heap.size w)
 unfold spec_l01Code.f at h
 have H := h
 clear h
 replace H := zi H
 obtain ⟨t436, A3, H⟩ := H
 try dsimp only at H
 by_cases c4 : t436 = true
 ·subst c4
  rw [if_pos rfl] at H
  have H' := Aside0.mk H
  clear H
  go_enter Try.func81, Try.ntmps81
  go_wp2_with (first | ((with_reducible refine zf 120 rfl ?_); refine g1 (some 7) Try.func120 #[.int .i64 a0] ?_; (with_reducible refine (spec_l01Prime.calls a0 true _ A3.out).mono ?_); rintro e w' ⟨rfl, ⟨nd, rfl⟩⟩; refine ⟨_, rfl, ?_⟩))
  go_loopg [5] k (fun kq v5 w' => ∃ (x5_1 : Int), v5 = .int .i64 x5_1 ∧ Aside0 (spec_l01Code.l0 kq a0 l1 x5_1 = some r) ∧ Aside0 (kq ≤ k) ∧ Aside0 (Below w.heap.size w w'))
  case atStart => exact ⟨(0), (by first | rfl | (simp; done) | (simp [*]; done)), H', ⟨Nat.le_refl _⟩, ⟨bl⟩⟩
  case round =>
   clear H'
   obtain ⟨x5_1, rfl, HA, HK1, HB⟩ := hrel
   cases gk with
   | zero => exact absurd HA.out (by simp [spec_l01Code.l0])
   | succ k1 =>
    have H := HA.out
    clear HA
    simp only [spec_l01Code.l0] at H
    replace H := ii H
    rcases H with ⟨c5, H⟩ | ⟨c5, H⟩
    ·have c5b0 := decide_eq_true c5
     clear c5
     replace H := ii H
     rcases H with ⟨c6, H⟩ | ⟨c6, H⟩
     ·have c6b0 := decide_eq_true c6
      clear c6
      replace H := zi H
      obtain ⟨t438, A7, H⟩ := H
      try dsimp only at H
      by_cases c8 : t438 = true
      ·subst c8
       rw [if_pos rfl] at H
       have H' := Aside0.mk H
       clear H
       have p437 : 0 ≤ (x5_1 : Int) := za
       have q437 : x5_1 < (l1.length : Int) := za
       obtain ⟨ad437, e437, hx437_0, hx437_1, hx437_2⟩ := at_T27 HR1.out x5_1 p437 q437
       cases e437
       replace hx437_0 := (HB.out.cell (World.block_lt_of_cell? w _ hx437_0)).trans hx437_0
       replace hx437_1 := (HB.out.cell (World.block_lt_of_cell? w _ hx437_1)).trans hx437_1
       replace hx437_2 := (HB.out.cell (World.block_lt_of_cell? w _ hx437_2)).trans hx437_2
       replace p437 := eq_true p437
       replace q437 := eq_true q437
       go_wp2_with (first | ((with_reducible refine zf 134 rfl ?_); refine g1 (some 20) Try.func134 #[.int .i64 a0, .agg #[.int .i64 ((rd_T27 l1 x5_1).f0), .int .i64 ((rd_T27 l1 x5_1).f1), .int .i64 ((rd_T27 l1 x5_1).f2)]] ?_; (with_reducible refine (spec_l01Is.calls k1 a0 ((rd_T27 l1 x5_1).f0) ((rd_T27 l1 x5_1).f1) ((rd_T27 l1 x5_1).f2) true _ A7.out).mono ?_); rintro e w9 ⟨rfl, hb⟩; refine ⟨_, rfl, ?_⟩; replace HB := bs hb; (try clear hb)))
       go_roundg k1
       case measure => have := HK1.out; omega
       case rel => exact ⟨(wrap64 (x5_1 + 1)), (by first | rfl | (simp; done) | (simp [*]; done)), H', ⟨by have := HK1.out; omega⟩, ⟨bl⟩⟩
      ·replace c8 := Bool.eq_false_iff.mpr c8
       subst c8
       have H1 : (some 1) = some r := by rw [if_neg (show ¬ (false = true) by decide)] at H; exact H
       clear H
       have H := H1
       clear H1
       obtain rfl := Option.some.inj H
       have p437 : 0 ≤ (x5_1 : Int) := za
       have q437 : x5_1 < (l1.length : Int) := za
       obtain ⟨ad437, e437, hx437_0, hx437_1, hx437_2⟩ := at_T27 HR1.out x5_1 p437 q437
       cases e437
       replace hx437_0 := (HB.out.cell (World.block_lt_of_cell? w _ hx437_0)).trans hx437_0
       replace hx437_1 := (HB.out.cell (World.block_lt_of_cell? w _ hx437_1)).trans hx437_1
       replace hx437_2 := (HB.out.cell (World.block_lt_of_cell? w _ hx437_2)).trans hx437_2
       replace p437 := eq_true p437
       replace q437 := eq_true q437
       go_wp2_with (first | ((with_reducible refine zf 134 rfl ?_); refine g1 (some 20) Try.func134 #[.int .i64 a0, .agg #[.int .i64 ((rd_T27 l1 x5_1).f0), .int .i64 ((rd_T27 l1 x5_1).f1), .int .i64 ((rd_T27 l1 x5_1).f2)]] ?_; (with_reducible refine (spec_l01Is.calls k1 a0 ((rd_T27 l1 x5_1).f0) ((rd_T27 l1 x5_1).f1) ((rd_T27 l1 x5_1).f2) false _ A7.out).mono ?_); rintro e w10 ⟨rfl, hb⟩; refine ⟨_, rfl, ?_⟩; replace HB := bs hb; (try clear hb)))
       go_ret
       exact ⟨er, bl⟩
     ·exact absurd H (by simp)
    ·have c5b0 := decide_eq_false c5
     clear c5
     obtain rfl := Option.some.inj H
     go_wp2
     go_ret
     exact ⟨er, bl⟩
 ·replace c4 := Bool.eq_false_iff.mpr c4
  subst c4
  have H1 : (some 1) = some r := by rw [if_neg (show ¬ (false = true) by decide)] at H; exact H
  clear H
  have H := H1
  clear H1
  obtain rfl := Option.some.inj H
  go_enter Try.func81, Try.ntmps81
  go_wp2_with (first | ((with_reducible refine zf 120 rfl ?_); refine g1 (some 7) Try.func120 #[.int .i64 a0] ?_; (with_reducible refine (spec_l01Prime.calls a0 false _ A3.out).mono ?_); rintro e w' ⟨rfl, ⟨nd, rfl⟩⟩; refine ⟨_, rfl, ?_⟩))
  go_ret
  exact ⟨er, bl⟩

/-! ### spec_l01Gcd: function 149 -/
def spec_l01Gcd.l0 : Nat → Int → Int → Option (Int)
 | 0, _, _ => none
 | k + 1, x0, x1 => if x1 = 0 then (some (mx x0 (wrap64 (-x0)))) else (spec_l01Gcd.l0 k x1 (Int.tmod x0 x1))
def spec_l01Gcd.f (k : Nat) (a0 : Int) (a1 : Int) : Option (Int) := spec_l01Gcd.l0 k a0 a1
set_option maxHeartbeats 8000000 in
set_option maxRecDepth 100000 in
theorem spec_l01Gcd.calls (k : Nat) (a0 : Int) (a1 : Int) (r : Int) (w : World) (h : spec_l01Gcd.f k a0 a1 = some r) :
  Calls Try.prog 149 #[.int .i64 a0, .int .i64 a1] w fun e w' => e = .returned (.int .i64 r) ∧ Below w.heap.size w w' := by
 have HB := Aside0.mk (Below.refl w.heap.size w)
 unfold spec_l01Gcd.f at h
 have H := h
 clear h
 have H' := Aside0.mk H
 clear H
 go_enter Try.func149, Try.ntmps149
 go_wp2
 go_loopg [0, 1] k (fun kq v0 v1 w' => ∃ (x0_1 : Int) (x1_1 : Int), v0 = .int .i64 x0_1 ∧ v1 = .int .i64 x1_1 ∧ Aside0 (spec_l01Gcd.l0 kq x0_1 x1_1 = some r) ∧ Aside0 (kq ≤ k) ∧ Aside0 (Below w.heap.size w w'))
 case atStart => exact ⟨(a0), (a1), (by first | rfl | (simp; done) | (simp [*]; done)), (by first | rfl | (simp; done) | (simp [*]; done)), H', ⟨Nat.le_refl _⟩, ⟨bl⟩⟩
 case round =>
  clear H'
  obtain ⟨x0_1, x1_1, rfl, rfl, HA, HK1, HB⟩ := hrel
  cases gk with
  | zero => exact absurd HA.out (by simp [spec_l01Gcd.l0])
  | succ k1 =>
   have H := HA.out
   clear HA
   simp only [spec_l01Gcd.l0] at H
   replace H := ii H
   rcases H with ⟨c3, H⟩ | ⟨c3, H⟩
   ·obtain ⟨c3b0, c3b1⟩ := zz c3
    clear c3
    obtain ⟨ji4, hji4⟩ : ∃ j_ : Int, (mx x0_1 (wrap64 (-x0_1))) = j_ := ⟨_, rfl⟩
    replace H : (some ji4) = some r := by first | (rw [hji4] at H; exact H) | (simp only [hji4] at H ⊢; exact H)
    have hji4_ : (if x0_1 < (wrap64 (-x0_1)) then (wrap64 (-x0_1)) else x0_1) = ji4 := hji4
    obtain rfl := Option.some.inj H
    go_wp2
    go_ret
    exact ⟨by first | rfl | (simp [errW_none, errW_some] <;> rfl) | (simp only [← hji4]; first | rfl | (simp [errW_none, errW_some] <;> rfl)) | (simp [*, errW_none, errW_some] <;> rfl), bl⟩
   ·obtain ⟨c3b0, c3b1⟩ := zy c3
    have H' := Aside0.mk H
    clear H
    go_wp2
    go_roundg k1
    case measure => have := HK1.out; omega
    case rel => exact ⟨(x1_1), (Int.tmod x0_1 x1_1), (by first | rfl | (simp; done) | (simp [*]; done)), (by first | rfl | (simp; done) | (simp [*]; done)), H', ⟨by have := HK1.out; omega⟩, ⟨bl⟩⟩

end Go.Proofs.Ytpmepopagapeiaa.PFnBalls

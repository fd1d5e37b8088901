-- Printed by the kit's print and repaired by a program of this session.
import Derived.Test.YtpmepopagapeiaaPFnMediansx0
import Derived.Test.YtpmepopagapeiaaPFnMediansx1
import Derived.Test.YtpmepopagapeiaaPFnMediansx5
import Derived.Test.YtpmepopagapeiaaPFnMediansx8
import Derived.Test.YtpmepopagapeiaaPFnMediansx9
import Derived.Test.YtpmepopagapeiaaPFnMediansx12
import Derived.Test.YtpmepopagapeiaaPFnMediansx13
import Derived.Test.YtpmepopagapeiaaPFnMediansx14
import Derived.Test.YtpmepopagapeiaaPFnMediansx15
import Derived.Test.YtpmepopagapeiaaPFnMediansx17
import Derived.Test.YtpmepopagapeiaaPFnMediansx19
import Derived.Test.YtpmepopagapeiaaPFnMediansx20
import Derived.Deep.Light
import Derived.Test.YtpmepopagapeiaaPFnMediansx21
import Derived.Test.YtpmepopagapeiaaPFnMediansx22
import Derived.Test.YtpmepopagapeiaaPFnMediansx23
namespace Go.Proofs.Ytpmepopagapeiaa.PFnMedians
open Go.RowKit Go.Proofs.YtpmepopagapeiaaW.PrintWords Go.Proofs.YtpmepopagapeiaaW.PrintLast Go.Proofs.YtpmepopagapeiaaW.PrintMore
attribute [local go_sem] max2_int min2_int max_two min_two max_three min_three max_four min_four
set_option linter.unusedVariables false
set_option linter.unusedSimpArgs false

attribute [local go_sem high] eqA27
set_option maxHeartbeats 8000000 in
set_option maxRecDepth 100000 in
theorem laws_FnMedians.calls (k : Nat) (A0 : Option Addr) (c0 : Nat) (l0 : List Int) (r : Bool) (w : World) (hr : Aside0 (r = true)) (hr0 : Kd.C (Kd.int .u8) w A0 l0.length l0) (hc0 : l0.length ≤ c0) (h : laws_FnMedians.f k l0 = some r) :
  Calls Try.prog 9 #[.slice A0 l0.length c0] w fun e w' => e = .returned (.bool r) ∧ Below w.heap.size w w' := by
 have hu27 := Try.underlying27
 have hu63 := Try.underlying63
 have HR0 := Aside0.mk hr0
 have HC0 := Aside0.mk hc0
 clear hr0 hc0
 have HB := Aside0.mk (Below.refl w.heap.size w)
 unfold laws_FnMedians.f at h
 have H := h
 clear h
 replace H := zi H
 obtain ⟨t728, A2, H⟩ := H
 try dsimp only at H
 by_cases c3 : t728 = true
 ·subst c3
  rw [if_pos rfl] at H
  obtain rfl := Option.some.inj H
  go_enter Try.func9, Try.ntmps9
  go_wp2_with (first | ((with_reducible refine zf 21 rfl ?_); refine g1 (some 54) Try.func21 #[.slice A0 l0.length c0] ?_; (with_reducible refine (laws_big.calls _ _ l0 true _ ?side1 ?side2 A2.out).mono ?_); (case side1 => repeat (first | exact HR0.out | (with_reducible refine Kd.C_alloc ?_ _) | (with_reducible refine Kd.C_drewN ?_ _) | (with_reducible refine Kd.C_drew ?_))); (case side2 => exact HC0.out); rintro e w' ⟨rfl, ⟨nd, rfl⟩⟩; refine ⟨_, rfl, ?_⟩))
  go_ret
  exact ⟨er, bl⟩
 ·replace c3 := Bool.eq_false_iff.mpr c3
  subst c3
  have H1 : ((spec_DrawMedianOf.f k l0).bind fun bt729 => ((impl_MedianOf.f k bt729.1 bt729.2.1 bt729.2.2.1 bt729.2.2.2.1 bt729.2.2.2.2.1 bt729.2.2.2.2.2.1 bt729.2.2.2.2.2.2.1 bt729.2.2.2.2.2.2.2.1 bt729.2.2.2.2.2.2.2.2.1 bt729.2.2.2.2.2.2.2.2.2).bind fun bt742 => ((spec_MedianOf.f k bt729.1 bt729.2.1 bt729.2.2.1 bt729.2.2.2.1 bt729.2.2.2.2.1 bt729.2.2.2.2.2.1 bt729.2.2.2.2.2.2.1 bt729.2.2.2.2.2.2.2.1 bt729.2.2.2.2.2.2.2.2.1 bt729.2.2.2.2.2.2.2.2.2).bind fun bt747 => (if bt742.2.2.2 = bt747.2.2.2 then (laws_FnMedians.j0 k l0 bt729.1 bt742.2.2.2 (!(bt742.1 == bt747.1) || (!(bt742.2.1 == bt747.2.1) || (!(bt742.2.2.1 == bt747.2.2.1)))) bt729.2.1 bt729.2.2.1 bt729.2.2.2.1 bt729.2.2.2.2.1 bt729.2.2.2.2.2.1 bt729.2.2.2.2.2.2.1 bt729.2.2.2.2.2.2.2.1 bt729.2.2.2.2.2.2.2.2.1 bt729.2.2.2.2.2.2.2.2.2 bt742.1 bt742.2.1 bt742.2.2.1) else (laws_FnMedians.j0 k l0 bt729.1 bt742.2.2.2 true bt729.2.1 bt729.2.2.1 bt729.2.2.2.1 bt729.2.2.2.2.1 bt729.2.2.2.2.2.1 bt729.2.2.2.2.2.2.1 bt729.2.2.2.2.2.2.2.1 bt729.2.2.2.2.2.2.2.2.1 bt729.2.2.2.2.2.2.2.2.2 bt742.1 bt742.2.1 bt742.2.2.1))))) = some r := by rw [if_neg (show ¬ (false = true) by decide)] at H; exact H
  clear H
  have H := H1
  clear H1
  replace H := zi H
  obtain ⟨⟨t729, t730, t731, t732, t733, t734, t735, t736, t737, t738⟩, A4, H⟩ := H
  try dsimp only at H
  replace H := zi H
  obtain ⟨⟨t742, t743, t744, t745⟩, A5, H⟩ := H
  try dsimp only at H
  replace H := zi H
  obtain ⟨⟨t747, t748, t749, t750⟩, A6, H⟩ := H
  try dsimp only at H
  have HC7 := Aside0.mk H
  clear H
  go_enter Try.func9, Try.ntmps9
  go_upto_region 6 with (first | ((with_reducible refine zf 21 rfl ?_); refine g1 (some 54) Try.func21 #[.slice A0 l0.length c0] ?_; (with_reducible refine (laws_big.calls _ _ l0 false _ ?side1 ?side2 A2.out).mono ?_); (case side1 => repeat (first | exact HR0.out | (with_reducible refine Kd.C_alloc ?_ _) | (with_reducible refine Kd.C_drewN ?_ _) | (with_reducible refine Kd.C_drew ?_))); (case side2 => exact HC0.out); rintro e w' ⟨rfl, ⟨nd, rfl⟩⟩; refine ⟨_, rfl, ?_⟩) | ((with_reducible refine zf 51 rfl ?_); refine g1 (some 57) Try.func51 #[.slice A0 l0.length c0] ?_; (with_reducible refine (spec_DrawMedianOf.calls k _ _ l0 t729 t730 t731 t732 t733 t734 t735 t736 t737 t738 _ ?side1 ?side2 A4.out).mono ?_); (case side1 => repeat (first | exact HR0.out | (with_reducible refine Kd.C_alloc ?_ _) | (with_reducible refine Kd.C_drewN ?_ _) | (with_reducible refine Kd.C_drew ?_))); (case side2 => exact HC0.out); rintro e w8 ⟨rfl, hb⟩; refine ⟨_, rfl, ?_⟩; replace HB := bs hb; (try clear hb)) | ((with_reducible refine zg 4 rfl ?_); (try (refine gate_guard (by rfl) ?_; dsimp only)); refine z3 4 27 0 0 0 ?_; intro gb739 hg w9 BK739 hb; have GW739 := sg hg; replace HB := bs hb; clear hb hg) | ((with_reducible refine zg 5 rfl ?_); (try (refine gate_guard (by rfl) ?_; dsimp only)); refine z3 5 27 0 0 0 ?_; intro gb740 hg w10 BK740 hb; have GW740 := sg hg; have NB739_740 := nl hg BK739; replace BK739 := bb BK739 hb; replace HB := bs hb; clear hb hg) | ((with_reducible refine zg 6 rfl ?_); (try (refine gate_guard (by rfl) ?_; dsimp only)); refine z3 6 27 0 0 0 ?_; intro gb741 hg w11 BK741 hb; have GW741 := sg hg; have NB739_741 := nl hg BK739; have NB740_741 := nl hg BK740; replace BK739 := bb BK739 hb; replace BK740 := bb BK740 hb; replace HB := bs hb; clear hb hg; obtain ⟨hnb12, hnc12⟩ := zn NB739_740; obtain ⟨hnb13, hnc13⟩ := zn NB739_741; obtain ⟨hcz14_0, hcz14_1, hcz14_2, hfz14_0, hfz14_1, hfz14_2⟩ := cq3 BK739; obtain ⟨hnb15, hnc15⟩ := zn NB740_741; obtain ⟨hcz16_0, hcz16_1, hcz16_2, hfz16_0, hfz16_1, hfz16_2⟩ := cq3 BK740; obtain ⟨hcz17_0, hcz17_1, hcz17_2, hfz17_0, hfz17_1, hfz17_2⟩ := cq3 BK741) | ((with_reducible refine zf 52 rfl ?_); refine g1 (some 67) Try.func52 #[.int .i64 t729, .agg #[.int .i64 t730, .int .i64 t731, .int .i64 t732], .agg #[.int .i64 t733, .int .i64 t734, .int .i64 t735], .agg #[.int .i64 t736, .int .i64 t737, .int .i64 t738]] ?_; (with_reducible refine (impl_MedianOf.calls k t729 t730 t731 t732 t733 t734 t735 t736 t737 t738 t742 t743 t744 t745 _ A5.out).mono ?_); rintro e w18 ⟨rfl, hb⟩; refine ⟨_, rfl, ?_⟩; replace BK739 := Aside0.mk (blk_below (g := gb739) (o := .cells #[.int .i64 t730, .int .i64 t731, .int .i64 t732] 27 (0, 0)) (bp) hb); replace BK740 := Aside0.mk (blk_below (g := gb740) (o := .cells #[.int .i64 t733, .int .i64 t734, .int .i64 t735] 27 (0, 0)) (bp) hb); replace BK741 := Aside0.mk (blk_below (g := gb741) (o := .cells #[.int .i64 t736, .int .i64 t737, .int .i64 t738] 27 (0, 0)) (bp) hb); replace HB := bs hb; (try clear hb)) | ((with_reducible refine zg 7 rfl ?_); (try (refine gate_guard (by rfl) ?_; dsimp only)); refine z3 7 27 0 0 0 ?_; intro gb746 hg w19 BK746 hb; have GW746 := sg hg; have NB739_746 := nl hg BK739; have NB740_746 := nl hg BK740; have NB741_746 := nl hg BK741; replace BK739 := bb BK739 hb; replace BK740 := bb BK740 hb; replace BK741 := bb BK741 hb; replace HB := bs hb; clear hb hg; obtain ⟨hnb20, hnc20⟩ := zm NB739_746; obtain ⟨hnb21, hnc21⟩ := zm NB740_746; obtain ⟨hnb22, hnc22⟩ := zm NB741_746; obtain ⟨hcz23_0, hcz23_1, hcz23_2, hfz23_0, hfz23_1, hfz23_2⟩ := cq3 BK746; obtain ⟨hcz24_0, hcz24_1, hcz24_2, hfz24_0, hfz24_1, hfz24_2⟩ := cq3 BK739; obtain ⟨hcz25_0, hcz25_1, hcz25_2, hfz25_0, hfz25_1, hfz25_2⟩ := cq3 BK740; obtain ⟨hcz26_0, hcz26_1, hcz26_2, hfz26_0, hfz26_1, hfz26_2⟩ := cq3 BK741) | ((with_reducible refine zf 53 rfl ?_); refine g1 (some 75) Try.func53 #[.int .i64 t729, .agg #[.int .i64 t730, .int .i64 t731, .int .i64 t732], .agg #[.int .i64 t733, .int .i64 t734, .int .i64 t735], .agg #[.int .i64 t736, .int .i64 t737, .int .i64 t738]] ?_; (with_reducible refine (spec_MedianOf.calls k t729 t730 t731 t732 t733 t734 t735 t736 t737 t738 t747 t748 t749 t750 _ A6.out).mono ?_); rintro e w27 ⟨rfl, hb⟩; refine ⟨_, rfl, ?_⟩; replace BK739 := Aside0.mk (blk_below (g := gb739) (o := .cells #[.int .i64 t730, .int .i64 t731, .int .i64 t732] 27 (0, 0)) (bp) hb); replace BK740 := Aside0.mk (blk_below (g := gb740) (o := .cells #[.int .i64 t733, .int .i64 t734, .int .i64 t735] 27 (0, 0)) (bp) hb); replace BK741 := Aside0.mk (blk_below (g := gb741) (o := .cells #[.int .i64 t736, .int .i64 t737, .int .i64 t738] 27 (0, 0)) (bp) hb); replace BK746 := Aside0.mk (blk_below (g := gb746) (o := .cells #[.int .i64 t742, .int .i64 t743, .int .i64 t744] 27 (0, 0)) (bp) hb); replace HB := bs hb; (try clear hb)) | ((with_reducible refine zg 9 rfl ?_); (try (refine gate_guard (by rfl) ?_; dsimp only)); refine z3 9 27 0 0 0 ?_; intro gb751 hg w28 BK751 hb; have GW751 := sg hg; have NB739_751 := nl hg BK739; have NB740_751 := nl hg BK740; have NB741_751 := nl hg BK741; have NB746_751 := nl hg BK746; replace BK739 := bb BK739 hb; replace BK740 := bb BK740 hb; replace BK741 := bb BK741 hb; replace BK746 := bb BK746 hb; replace HB := bs hb; clear hb hg; obtain ⟨hnb29, hnc29⟩ := zm NB739_751; obtain ⟨hnb30, hnc30⟩ := zm NB740_751; obtain ⟨hnb31, hnc31⟩ := zm NB741_751; obtain ⟨hnb32, hnc32⟩ := zm NB746_751; obtain ⟨hcz33_0, hcz33_1, hcz33_2, hfz33_0, hfz33_1, hfz33_2⟩ := cq3 BK751))
  (try simp only [Act.put, zq, zr, zt])
  go_cut [85] (fun v85 wc => ∃ (kq : Nat) (x85_6 : Bool), v85 = .bool x85_6 ∧ Aside0 (laws_FnMedians.j0 kq l0 t729 t745 x85_6 t730 t731 t732 t733 t734 t735 t736 t737 t738 t742 t743 t744 = some r) ∧ Aside0 (kq ≤ k) ∧ Aside0 (wc.heap[gb739]? = some (.cells #[.int .i64 t730, .int .i64 t731, .int .i64 t732] 27 (0, 0))) ∧ Aside0 (wc.heap[gb740]? = some (.cells #[.int .i64 t733, .int .i64 t734, .int .i64 t735] 27 (0, 0))) ∧ Aside0 (wc.heap[gb741]? = some (.cells #[.int .i64 t736, .int .i64 t737, .int .i64 t738] 27 (0, 0))) ∧ Aside0 (wc.heap[gb746]? = some (.cells #[.int .i64 t742, .int .i64 t743, .int .i64 t744] 27 (0, 0))) ∧ Aside0 (wc.heap[gb751]? = some (.cells #[.int .i64 t747, .int .i64 t748, .int .i64 t749] 27 (0, 0))) ∧ Aside0 (Below w.heap.size w wc))
  case first =>
   as_aux_lemma =>
   have H := HC7.out
   clear HC7
   replace H := ii H
   rcases H with ⟨c34, H⟩ | ⟨c34, H⟩
   ·obtain ⟨c34b0, c34b1⟩ := zz c34
    clear c34
    (first | rw [c34b0] | (simp only [i64_w, i32_w]; rw [c34b0]) | skip)
    have H' := Aside0.mk H
    clear H
    obtain ⟨hnb38, hnc38⟩ := zn NB746_751
    obtain ⟨hcz39_0, hcz39_1, hcz39_2, hfz39_0, hfz39_1, hfz39_2⟩ := cq3 BK746
    obtain ⟨hcz43_0, hcz43_1, hcz43_2, hfz43_0, hfz43_1, hfz43_2⟩ := cq3 BK751
    go_wp2
    go_meet
    case rel => go_light; exact ⟨_, ((!(t742 == t747) || (!(t743 == t748) || (!(t744 == t749))))), (by first | rfl | (simp; done) | (simp [*]; done)), H', ⟨by first | omega | exact Nat.le_refl _⟩, ⟨bp⟩, ⟨bp⟩, ⟨bp⟩, ⟨bp⟩, ⟨bp⟩, ⟨bl⟩⟩
   ·obtain ⟨c34b0, c34b1⟩ := zy c34
    (first | rw [c34b0] | (simp only [i64_w, i32_w]; rw [c34b0]) | skip)
    have H' := Aside0.mk H
    clear H
    go_wp2
    go_meet
    case rel => go_light; exact ⟨_, (true), (by first | rfl | (simp; done) | (simp [*]; done)), H', ⟨by first | omega | exact Nat.le_refl _⟩, ⟨bp⟩, ⟨bp⟩, ⟨bp⟩, ⟨bp⟩, ⟨bp⟩, ⟨bl⟩⟩
  case rest =>
   clear hnb12 hnc12 hnb13 hnc13 hcz14_0 hcz14_1 hcz14_2 hfz14_0 hfz14_1 hfz14_2 hnb15 hnc15 hcz16_0 hcz16_1 hcz16_2 hfz16_0 hfz16_1 hfz16_2 hcz17_0 hcz17_1 hcz17_2 hfz17_0 hfz17_1 hfz17_2 hnb20 hnc20 hnb21 hnc21 hnb22 hnc22 hcz23_0 hcz23_1 hcz23_2 hfz23_0 hfz23_1 hfz23_2 hcz24_0 hcz24_1 hcz24_2 hfz24_0 hfz24_1 hfz24_2 hcz25_0 hcz25_1 hcz25_2 hfz25_0 hfz25_1 hfz25_2 hcz26_0 hcz26_1 hcz26_2 hfz26_0 hfz26_1 hfz26_2 hnb29 hnc29 hnb30 hnc30 hnb31 hnc31 hnb32 hnc32 hcz33_0 hcz33_1 hcz33_2 hfz33_0 hfz33_1 hfz33_2
   clear HC7
   obtain ⟨kq, x85_6, rfl, HA, HJ6, BK739, BK740, BK741, BK746, BK751, HB⟩ := hcut
   cases kq with
   | zero => exact absurd HA.out (by simp [laws_FnMedians.j0])
   | succ kj6 =>
    have H := HA.out
    clear HA
    rw [laws_FnMedians.j0] at H
    by_cases c44 : x85_6 = true
    ·subst c44
     rw [if_pos rfl] at H
     exact absurd ((Option.some.inj H).trans hr.out) (by simp)
    ·replace c44 := Bool.eq_false_iff.mpr c44
     subst c44
     have H1 : ((spec_DrawSphereAround.f kj6 l0).bind fun bt752 => ((impl_SphereAround.f kj6 bt752.1 bt752.2.1 bt752.2.2.1 bt752.2.2.2.1 bt752.2.2.2.2).bind fun bt758 => ((spec_SphereAround.f kj6 bt752.1 bt752.2.1 bt752.2.2.1 bt752.2.2.2.1 bt752.2.2.2.2).bind fun bt762 => (if bt758.2 = bt762.2 then ((laws_balls9.f kj6 bt758.1 bt762.1).bind fun t766 => (laws_FnMedians.j1 kj6 l0 t729 t745 bt752.1 bt752.2.2.2.2 bt758.1 bt758.2 (!t766) t730 t731 t732 t733 t734 t735 t736 t737 t738 t742 t743 t744 bt752.2.1 bt752.2.2.1 bt752.2.2.2.1)) else (laws_FnMedians.j1 kj6 l0 t729 t745 bt752.1 bt752.2.2.2.2 bt758.1 bt758.2 true t730 t731 t732 t733 t734 t735 t736 t737 t738 t742 t743 t744 bt752.2.1 bt752.2.2.1 bt752.2.2.2.1))))) = some r := by rw [if_neg (show ¬ (false = true) by decide)] at H; exact H
     clear H
     have H := H1
     clear H1
     replace H := zi H
     obtain ⟨⟨t752, t753, t754, t755, t756⟩, A45, H⟩ := H
     try dsimp only at H
     replace H := zi H
     obtain ⟨⟨t758, t761⟩, A46, H⟩ := H
     try dsimp only at H
     replace H := zi H
     obtain ⟨⟨t762, t765⟩, A47, H⟩ := H
     try dsimp only at H
     have HC48 := Aside0.mk H
     clear H
     go_upto_region 11 with (first | ((with_reducible refine zf 54 rfl ?_); refine g1 (some 88) Try.func54 #[.slice A0 l0.length c0] ?_; (with_reducible refine (spec_DrawSphereAround.calls kj6 _ _ l0 t752 t753 t754 t755 t756 _ ?side1 ?side2 A45.out).mono ?_); (case side1 => repeat (first | exact (Kd.C_below HR0.out HB.out) | (with_reducible refine Kd.C_alloc ?_ _) | (with_reducible refine Kd.C_drewN ?_ _) | (with_reducible refine Kd.C_drew ?_))); (case side2 => exact HC0.out); rintro e w49 ⟨rfl, hb⟩; refine ⟨_, rfl, ?_⟩; replace BK739 := bb BK739 hb; replace BK740 := bb BK740 hb; replace BK741 := bb BK741 hb; replace BK746 := bb BK746 hb; replace BK751 := bb BK751 hb; replace HB := bs hb; (try clear hb)) | ((with_reducible refine zg 12 rfl ?_); (try (refine gate_guard (by rfl) ?_; dsimp only)); refine z3 12 27 0 0 0 ?_; intro gb757 hg w50 BK757 hb; have GW757 := sg hg; have NB739_757 := nl hg BK739; have NB740_757 := nl hg BK740; have NB741_757 := nl hg BK741; have NB746_757 := nl hg BK746; have NB751_757 := nl hg BK751; replace BK739 := bb BK739 hb; replace BK740 := bb BK740 hb; replace BK741 := bb BK741 hb; replace BK746 := bb BK746 hb; replace BK751 := bb BK751 hb; replace HB := bs hb; clear hb hg; obtain ⟨hcz56_0, hcz56_1, hcz56_2, hfz56_0, hfz56_1, hfz56_2⟩ := cq3 BK757) | ((with_reducible refine zf 20 rfl ?_); refine g1 (some 96) Try.func20 #[.int .i64 t752, .agg #[.int .i64 t753, .int .i64 t754, .int .i64 t755], .int .i64 t756] ?_; (with_reducible refine (impl_SphereAround.calls kj6 t752 t753 t754 t755 t756 t758 t761 _ A46.out).mono ?_); rintro e w57 ⟨v759, rfl, ho0, hb⟩; refine ⟨_, rfl, ?_⟩; have HO760 := Aside0.mk (Kd.R_lower (Kd.R_newB (Kd.R_newB (Kd.R_newB (Kd.R_newB (Kd.R_newB (Kd.R_newB ho0 (g := gb739) (o := .cells #[.int .i64 t730, .int .i64 t731, .int .i64 t732] 27 (0, 0)) (bp)) (g := gb740) (o := .cells #[.int .i64 t733, .int .i64 t734, .int .i64 t735] 27 (0, 0)) (bp)) (g := gb741) (o := .cells #[.int .i64 t736, .int .i64 t737, .int .i64 t738] 27 (0, 0)) (bp)) (g := gb746) (o := .cells #[.int .i64 t742, .int .i64 t743, .int .i64 t744] 27 (0, 0)) (bp)) (g := gb751) (o := .cells #[.int .i64 t747, .int .i64 t748, .int .i64 t749] 27 (0, 0)) (bp)) (g := gb757) (o := .cells #[.int .i64 t753, .int .i64 t754, .int .i64 t755] 27 (0, 0)) (bp)) (below_size (bl))); replace BK739 := Aside0.mk (blk_below (g := gb739) (o := .cells #[.int .i64 t730, .int .i64 t731, .int .i64 t732] 27 (0, 0)) (bp) hb); replace BK740 := Aside0.mk (blk_below (g := gb740) (o := .cells #[.int .i64 t733, .int .i64 t734, .int .i64 t735] 27 (0, 0)) (bp) hb); replace BK741 := Aside0.mk (blk_below (g := gb741) (o := .cells #[.int .i64 t736, .int .i64 t737, .int .i64 t738] 27 (0, 0)) (bp) hb); replace BK746 := Aside0.mk (blk_below (g := gb746) (o := .cells #[.int .i64 t742, .int .i64 t743, .int .i64 t744] 27 (0, 0)) (bp) hb); replace BK751 := Aside0.mk (blk_below (g := gb751) (o := .cells #[.int .i64 t747, .int .i64 t748, .int .i64 t749] 27 (0, 0)) (bp) hb); replace BK757 := Aside0.mk (blk_below (g := gb757) (o := .cells #[.int .i64 t753, .int .i64 t754, .int .i64 t755] 27 (0, 0)) (bp) hb); replace HB := bs hb; (try clear hb); (try clear hb2); (try clear hk); (try clear hi); (try clear ho0); obtain ⟨hcz58_0, hcz58_1, hcz58_2, hfz58_0, hfz58_1, hfz58_2⟩ := cq3 BK757) | ((with_reducible refine zf 19 rfl ?_); refine g1 (some 103) Try.func19 #[.int .i64 t752, .agg #[.int .i64 t753, .int .i64 t754, .int .i64 t755], .int .i64 t756] ?_; (with_reducible refine (spec_SphereAround.calls kj6 t752 t753 t754 t755 t756 t762 t765 _ A47.out).mono ?_); rintro e w59 ⟨v763, rfl, ho0, hb⟩; refine ⟨_, rfl, ?_⟩; have HO764 := Aside0.mk (Kd.R_lower (Kd.R_newB (Kd.R_newB (Kd.R_newB (Kd.R_newB (Kd.R_newB (Kd.R_newB (Kd.R_new' ho0 (Kd.R_lt (by (with_reducible repeat (first | apply Kd.R_alloc | apply Kd.R_drewN | apply Kd.R_drew)); exact HO760.out))) (g := gb739) (o := .cells #[.int .i64 t730, .int .i64 t731, .int .i64 t732] 27 (0, 0)) (be BK739)) (g := gb740) (o := .cells #[.int .i64 t733, .int .i64 t734, .int .i64 t735] 27 (0, 0)) (be BK740)) (g := gb741) (o := .cells #[.int .i64 t736, .int .i64 t737, .int .i64 t738] 27 (0, 0)) (be BK741)) (g := gb746) (o := .cells #[.int .i64 t742, .int .i64 t743, .int .i64 t744] 27 (0, 0)) (be BK746)) (g := gb751) (o := .cells #[.int .i64 t747, .int .i64 t748, .int .i64 t749] 27 (0, 0)) (be BK751)) (g := gb757) (o := .cells #[.int .i64 t753, .int .i64 t754, .int .i64 t755] 27 (0, 0)) (be BK757)) (below_size (bl))); replace HO760 := Aside0.mk (Kd.R_elder' (by (with_reducible repeat (first | apply Kd.R_alloc | apply Kd.R_drewN | apply Kd.R_drew)); exact HO760.out) (Kd.R_base ho0) hb); replace BK739 := bb BK739 hb; replace BK740 := bb BK740 hb; replace BK741 := bb BK741 hb; replace BK746 := bb BK746 hb; replace BK751 := bb BK751 hb; replace BK757 := bb BK757 hb; replace HB := bs hb; (try clear hb); (try clear hb2); (try clear hk); (try clear hi); (try clear ho0)))
     (try simp only [Act.put, zq, zr, zt])
     go_cut [114] (fun v114 wc => ∃ (kq : Nat) (x114_47 : Bool), v114 = .bool x114_47 ∧ Aside0 (laws_FnMedians.j1 kq l0 t729 t745 t752 t756 t758 t761 x114_47 t730 t731 t732 t733 t734 t735 t736 t737 t738 t742 t743 t744 t753 t754 t755 = some r) ∧ Aside0 (kq ≤ kj6) ∧ Aside0 (Kd.R k27 27 wc w.heap.size (fun k_ => k_ ≠ gb739 ∧ k_ ≠ gb740 ∧ k_ ≠ gb741 ∧ k_ ≠ gb746 ∧ k_ ≠ gb751 ∧ k_ ≠ gb757) v759 t758) ∧ Aside0 (wc.heap[gb739]? = some (.cells #[.int .i64 t730, .int .i64 t731, .int .i64 t732] 27 (0, 0))) ∧ Aside0 (wc.heap[gb740]? = some (.cells #[.int .i64 t733, .int .i64 t734, .int .i64 t735] 27 (0, 0))) ∧ Aside0 (wc.heap[gb741]? = some (.cells #[.int .i64 t736, .int .i64 t737, .int .i64 t738] 27 (0, 0))) ∧ Aside0 (wc.heap[gb746]? = some (.cells #[.int .i64 t742, .int .i64 t743, .int .i64 t744] 27 (0, 0))) ∧ Aside0 (wc.heap[gb751]? = some (.cells #[.int .i64 t747, .int .i64 t748, .int .i64 t749] 27 (0, 0))) ∧ Aside0 (wc.heap[gb757]? = some (.cells #[.int .i64 t753, .int .i64 t754, .int .i64 t755] 27 (0, 0))) ∧ Aside0 (Below w.heap.size w wc))
     case first =>
      as_aux_lemma =>
      have H := HC48.out
      clear HC48
      replace H := ii H
      rcases H with ⟨c60, H⟩ | ⟨c60, H⟩
      ·obtain ⟨c60b0, c60b1⟩ := zz c60
       clear c60
       (first | rw [c60b0] | (simp only [i64_w, i32_w]; rw [c60b0]) | skip)
       replace H := zi H
       obtain ⟨t766, A61, H⟩ := H
       try dsimp only at H
       have H' := Aside0.mk H
       clear H
       obtain ⟨Ao62, co62, eo62⟩ := Kd.R_slice HO760.out
       subst eo62
       obtain ⟨Ao63, co63, eo63⟩ := Kd.R_slice HO764.out
       subst eo63
       go_wp2_with (first | (go_at_call 36; (with_reducible refine (laws_balls9.calls kj6 _ _ t758 _ _ t762 t766 _ ?side1 ?side2 ?side3 ?side4 A61.out).mono ?_); (case side1 => repeat (first | exact (Kd.R_reads' HO760.out).2.2 | (with_reducible refine Kd.C_alloc ?_ _) | (with_reducible refine Kd.C_drewN ?_ _) | (with_reducible refine Kd.C_drew ?_))); (case side2 => exact (Kd.R_reads' HO760.out).2.1); (case side3 => repeat (first | exact (Kd.R_reads' HO764.out).2.2 | (with_reducible refine Kd.C_alloc ?_ _) | (with_reducible refine Kd.C_drewN ?_ _) | (with_reducible refine Kd.C_drew ?_))); (case side4 => exact (Kd.R_reads' HO764.out).2.1); rintro e w' ⟨rfl, ⟨nd, rfl⟩⟩))
       go_meet
       case rel => go_light; exact ⟨_, (!t766), (by first | rfl | (simp; done) | (simp [*]; done)), H', ⟨by have := HJ6.out; first | omega | exact Nat.le_refl _⟩, ⟨by (with_reducible repeat (first | apply Kd.R_alloc | apply Kd.R_drewN | apply Kd.R_drew)); exact Kd.R_mono HO760.out (fun _ hk => ⟨hk.1.1.1.1.1.1.2, ⟨hk.1.1.1.1.1.2, ⟨hk.1.1.1.1.2, ⟨hk.1.1.1.2, ⟨hk.1.1.2, hk.1.2⟩⟩⟩⟩⟩)⟩, ⟨be BK739⟩, ⟨be BK740⟩, ⟨be BK741⟩, ⟨be BK746⟩, ⟨be BK751⟩, ⟨be BK757⟩, ⟨bl⟩⟩
      ·obtain ⟨c60b0, c60b1⟩ := zy c60
       (first | rw [c60b0] | (simp only [i64_w, i32_w]; rw [c60b0]) | skip)
       have H' := Aside0.mk H
       clear H
       go_wp2
       go_meet
       case rel => go_light; exact ⟨_, (true), (by first | rfl | (simp; done) | (simp [*]; done)), H', ⟨by have := HJ6.out; first | omega | exact Nat.le_refl _⟩, ⟨by (with_reducible repeat (first | apply Kd.R_alloc | apply Kd.R_drewN | apply Kd.R_drew)); exact Kd.R_mono HO760.out (fun _ hk => ⟨hk.1.1.1.1.1.1.2, ⟨hk.1.1.1.1.1.2, ⟨hk.1.1.1.1.2, ⟨hk.1.1.1.2, ⟨hk.1.1.2, hk.1.2⟩⟩⟩⟩⟩)⟩, ⟨be BK739⟩, ⟨be BK740⟩, ⟨be BK741⟩, ⟨be BK746⟩, ⟨be BK751⟩, ⟨be BK757⟩, ⟨bl⟩⟩
     case rest =>
      obtain ⟨kq, x114_47, rfl, HA, HJ47, HO_14, BK739, BK740, BK741, BK746, BK751, BK757, HB⟩ := hcut
      refine ‹∀ (a : Act) (w : World), Code.wp _ _ _ a w → _› _ _ ?_
      exact laws_FnMedians.part2 HA HJ47 HO_14 BK739 BK740 BK741 BK746 BK751 BK757 HB GW739 GW740 GW741 GW746 GW751 GW757 NB739_740 NB739_741 NB739_746 NB739_751 NB739_757 NB740_741 NB740_746 NB740_751 NB740_757 NB741_746 NB741_751 NB741_757 NB746_751 NB746_757 NB751_757 HR0 HC0 hr _ ‹∀ (a : Act) (w : World), Code.wp _ _ _ a w → _›
/-- THE ONE PURE STATEMENT of laws_FnMedians: yours. -/
theorem laws_FnMedians.walk (P : laws_FnMedians.Pure) (a0 : Option Addr) (len0 cap0 : Nat) (z0 : List Int) (w : World) (w0 : (a0 = none ∧ len0 = 0 ∧ cap0 = 0 ∧ z0 = []) ∨ ∃ x, a0 = some x ∧ len0 ≤ cap0 ∧ cap0 ≤ maxLen ∧ z0.length = cap0 ∧ (∀ i, i < z0.length → w.cell? (x.add i) = some (.int .u8 (z0.getD i 0))) ∧ ∀ n ∈ z0, (Lit.int .u8 n).wf = true) (y0 : len0 * 1 ≤ 140737488351232) :
  Calls Try.prog 9 #[.slice a0 len0 cap0] w fun e w' => e = .returned (.bool true) ∧ Below w.heap.size w w' := by
 obtain ⟨l0, rfl, hr0, hm0, hw0, hc0⟩ := ReadsInt.ofRowC w0
 obtain ⟨k, h⟩ := P l0 hm0 y0 hw0
 refine (laws_FnMedians.calls k _ _ l0 true w ⟨rfl⟩ (Kd.C_of_reads (d := (0 : Int)) (h1 := fun _ => rfl) hr0) hc0 h).mono ?_
 rintro e w' ⟨rfl, hd⟩
 exact ⟨rfl, hd⟩
end Go.Proofs.Ytpmepopagapeiaa.PFnMedians

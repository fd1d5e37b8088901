-- Printed by the kit's print and repaired by a program of this session.
import Derived.Test.YtgdkmchphpjifaaGreatDoorPFnEndsx0
import Derived.Test.YtgdkmchphpjifaaGreatDoorPFnEndsx1
import Derived.Test.YtgdkmchphpjifaaGreatDoorPFnEndsx2
import Derived.Test.YtgdkmchphpjifaaGreatDoorPFnEndsx3
import Derived.Test.YtgdkmchphpjifaaGreatDoorPFnEndsx4
import Derived.Test.YtgdkmchphpjifaaGreatDoorPFnEndsx7
import Derived.Test.YtgdkmchphpjifaaGreatDoorPFnEndsx9
import Derived.Test.YtgdkmchphpjifaaGreatDoorPFnEndsx10
import Derived.Test.YtgdkmchphpjifaaGreatDoorPFnEndsx11
import Derived.Test.YtgdkmchphpjifaaGreatDoorPFnEndsx12
import Derived.Test.YtgdkmchphpjifaaGreatDoorPFnEndsx13
import Derived.Test.YtgdkmchphpjifaaGreatDoorPFnEndsx16
import Derived.Test.YtgdkmchphpjifaaGreatDoorPFnEndsx17
import Derived.Test.YtgdkmchphpjifaaGreatDoorPFnEndsx19
import Derived.Deep.Light
import Derived.Test.YtgdkmchphpjifaaGreatDoorPFnEndsx20
import Derived.Test.YtgdkmchphpjifaaGreatDoorPFnEndsx21
namespace Go.Proofs.YtgdkmchphpjifaaGreatDoor.PFnEnds
open Go.RowKit Go.Proofs.YtgdkmchphpjifaaGreatDoorW.PrintWords Go.Proofs.YtgdkmchphpjifaaGreatDoorW.PrintLast Go.Proofs.YtgdkmchphpjifaaGreatDoorW.PrintMore
attribute [local go_sem] max2_int min2_int max_two min_two max_three min_three max_four min_four
set_option linter.unusedVariables false
set_option linter.unusedSimpArgs false

attribute [local go_sem high] eqA27 eqA35
set_option maxHeartbeats 8000000 in
set_option maxRecDepth 100000 in
theorem laws_FnEnds.calls (k : Nat) (A0 : Option Addr) (c0 : Nat) (l0 : List Int) (r : Bool) (w : World) (hr : Aside0 (r = true)) (hr0 : Kd.C (Kd.int .u8) w A0 l0.length l0) (hc0 : l0.length ≤ c0) (h : laws_FnEnds.f k l0 = some r) (htab : TabW w) :
  Calls Tryz.prog 3 #[.slice A0 l0.length c0] w fun e w' => e = .returned (.bool r) ∧ Below w.heap.size w w' := by
 have hu27 := Tryz.underlying27
 have hu35 := Tryz.underlying35
 have HR0 := Aside0.mk hr0
 have HC0 := Aside0.mk hc0
 clear hr0 hc0
 have HB := Aside0.mk (Below.refl w.heap.size w)
 unfold laws_FnEnds.f at h
 have H := h
 clear h
 replace H := zi H
 obtain ⟨t672, A2, H⟩ := H
 try dsimp only at H
 by_cases c3 : t672 = true
 ·subst c3
  rw [if_pos rfl] at H
  obtain rfl := Option.some.inj H
  go_enter Tryz.func3, Tryz.ntmps3
  go_wp2_with (first | ((with_reducible refine zf 4 rfl ?_); refine g1 (some 48) Tryz.func4 #[.slice A0 l0.length c0] ?_; (with_reducible refine (laws_big.calls _ _ l0 true _ ?side1 ?side2 A2.out).mono ?_); (case side1 => repeat (first | exact HR0.out | (with_reducible refine Kd.C_alloc ?_ _) | (with_reducible refine Kd.C_drewN ?_ _) | (with_reducible refine Kd.C_drew ?_))); (case side2 => exact HC0.out); rintro e w' ⟨rfl, ⟨nd, rfl⟩⟩; refine ⟨_, rfl, ?_⟩))
  go_ret
  exact ⟨er, bl⟩
 ·replace c3 := Bool.eq_false_iff.mpr c3
  subst c3
  have H1 : ((spec_DrawEndOf.f k l0).bind fun bt673 => ((impl_EndOf.f k bt673.1 bt673.2).bind fun bt675 => ((spec_EndOf.f k bt673.1 bt673.2).bind fun bt679 => (if bt675.2.2 = bt679.2.2 then (laws_FnEnds.j0 k l0 bt675.2.2 (!(bt675.1 == bt679.1) || (!(bt675.2.1 == bt679.2.1))) bt675.1 bt675.2.1) else (laws_FnEnds.j0 k l0 bt675.2.2 true bt675.1 bt675.2.1))))) = some r := by rw [if_neg (show ¬ (false = true) by decide)] at H; exact H
  clear H
  have H := H1
  clear H1
  replace H := zi H
  obtain ⟨⟨t673, t674⟩, A4, H⟩ := H
  try dsimp only at H
  replace H := zi H
  obtain ⟨⟨t675, t676, t677⟩, A5, H⟩ := H
  try dsimp only at H
  replace H := zi H
  obtain ⟨⟨t679, t680, t681⟩, A6, H⟩ := H
  try dsimp only at H
  have HC7 := Aside0.mk H
  clear H
  go_enter Tryz.func3, Tryz.ntmps3
  go_upto_region 6 with (first | ((with_reducible refine zf 4 rfl ?_); refine g1 (some 48) Tryz.func4 #[.slice A0 l0.length c0] ?_; (with_reducible refine (laws_big.calls _ _ l0 false _ ?side1 ?side2 A2.out).mono ?_); (case side1 => repeat (first | exact HR0.out | (with_reducible refine Kd.C_alloc ?_ _) | (with_reducible refine Kd.C_drewN ?_ _) | (with_reducible refine Kd.C_drew ?_))); (case side2 => exact HC0.out); rintro e w' ⟨rfl, ⟨nd, rfl⟩⟩; refine ⟨_, rfl, ?_⟩) | ((with_reducible refine zf 5 rfl ?_); refine g1 (some 51) Tryz.func5 #[.slice A0 l0.length c0] ?_; (with_reducible refine (spec_DrawEndOf.calls k _ _ l0 t673 t674 _ ?side1 ?side2 A4.out).mono ?_); (case side1 => repeat (first | exact HR0.out | (with_reducible refine Kd.C_alloc ?_ _) | (with_reducible refine Kd.C_drewN ?_ _) | (with_reducible refine Kd.C_drew ?_))); (case side2 => exact HC0.out); rintro e w8 ⟨rfl, hb⟩; refine ⟨_, rfl, ?_⟩; replace HB := bs hb; (try clear hb)) | ((with_reducible refine zf 6 rfl ?_); refine g1 (some 57) Tryz.func6 #[.int .i64 t673, .int .i64 t674] ?_; (with_reducible refine (impl_EndOf.calls k t673 t674 t675 t676 t677 _ A5.out).mono ?_); rintro e w9 ⟨rfl, hb⟩; refine ⟨_, rfl, ?_⟩; replace HB := bs hb; (try clear hb)) | ((with_reducible refine zg 5 rfl ?_); refine zb 5 27 #[.int .i64 0, .int .i64 0] ?_; intro gb678 hg w10 BK678 hb; have GW678 := sg hg; replace HB := bs hb; clear hb hg; obtain ⟨hcz11_0, hcz11_1, hfz11_0, hfz11_1⟩ := z2 BK678) | ((with_reducible refine zf 7 rfl ?_); refine g1 (some 63) Tryz.func7 #[.int .i64 t673, .int .i64 t674] ?_; (with_reducible refine (spec_EndOf.calls k t673 t674 t679 t680 t681 _ A6.out).mono ?_); rintro e w12 ⟨rfl, hb⟩; refine ⟨_, rfl, ?_⟩; replace BK678 := Aside0.mk (blk_below (g := gb678) (o := .cells #[.int .i64 t675, .int .i64 t676] 27 (0, 0)) (bp) hb); replace HB := bs hb; (try clear hb)) | ((with_reducible refine zg 7 rfl ?_); refine zb 7 27 #[.int .i64 0, .int .i64 0] ?_; intro gb682 hg w13 BK682 hb; have GW682 := sg hg; have NB678_682 := nl hg BK678; replace BK678 := bb BK678 hb; replace HB := bs hb; clear hb hg; obtain ⟨hnb14, hnc14⟩ := zm NB678_682; obtain ⟨hcz15_0, hcz15_1, hfz15_0, hfz15_1⟩ := z2 BK682))
  (try simp only [Act.put, zq, zr, zt])
  go_cut [73] (fun v73 wc => ∃ (kq : Nat) (x73_6 : Bool), v73 = .bool x73_6 ∧ Aside0 (laws_FnEnds.j0 kq l0 t677 x73_6 t675 t676 = some r) ∧ Aside0 (kq ≤ k) ∧ Aside0 (wc.heap[gb678]? = some (.cells #[.int .i64 t675, .int .i64 t676] 27 (0, 0))) ∧ Aside0 (wc.heap[gb682]? = some (.cells #[.int .i64 t679, .int .i64 t680] 27 (0, 0))) ∧ Aside0 (Below w.heap.size w wc))
  case first =>
   as_aux_lemma =>
   have H := HC7.out
   clear HC7
   replace H := ii H
   rcases H with ⟨c16, H⟩ | ⟨c16, H⟩
   ·obtain ⟨c16b0, c16b1⟩ := zz c16
    clear c16
    (first | rw [c16b0] | (simp only [i64_w, i32_w]; rw [c16b0]) | skip)
    have H' := Aside0.mk H
    clear H
    obtain ⟨hnb17, hnc17⟩ := zn NB678_682
    obtain ⟨hcz18_0, hcz18_1, hfz18_0, hfz18_1⟩ := z2 BK678
    obtain ⟨hcz19_0, hcz19_1, hfz19_0, hfz19_1⟩ := z2 BK682
    go_wp2
    go_meet
    case rel => go_light; exact ⟨_, ((!(t675 == t679) || (!(t676 == t680)))), (by first | rfl | (simp; done) | (simp [*]; done)), H', ⟨by first | omega | exact Nat.le_refl _⟩, ⟨bp⟩, ⟨bp⟩, ⟨bl⟩⟩
   ·obtain ⟨c16b0, c16b1⟩ := zy c16
    (first | rw [c16b0] | (simp only [i64_w, i32_w]; rw [c16b0]) | skip)
    have H' := Aside0.mk H
    clear H
    go_wp2
    go_meet
    case rel => go_light; exact ⟨_, (true), (by first | rfl | (simp; done) | (simp [*]; done)), H', ⟨by first | omega | exact Nat.le_refl _⟩, ⟨bp⟩, ⟨bp⟩, ⟨bl⟩⟩
  case rest =>
   clear hcz11_0 hcz11_1 hfz11_0 hfz11_1 hnb14 hnc14 hcz15_0 hcz15_1 hfz15_0 hfz15_1
   clear HC7
   obtain ⟨kq, x73_6, rfl, HA, HJ6, BK678, BK682, HB⟩ := hcut
   cases kq with
   | zero => exact absurd HA.out (by simp [laws_FnEnds.j0])
   | succ kj6 =>
    have H := HA.out
    clear HA
    rw [laws_FnEnds.j0] at H
    by_cases c20 : x73_6 = true
    ·subst c20
     rw [if_pos rfl] at H
     exact absurd ((Option.some.inj H).trans hr.out) (by simp)
    ·replace c20 := Bool.eq_false_iff.mpr c20
     subst c20
     have H1 : (if t677 = 0 then ((impl_EndText.f kj6 t675 t676).bind fun bt683 => ((impl_ParseEnd.f kj6 bt683.1).bind fun bt685 => ((impl_EndOf.f kj6 t675 t676).bind fun bt689 => (if bt683.2 = 0 then (if bt685.2.2 = 0 then (if bt689.2.2 = 0 then (if (!(bt685.1 == t675) || (!(bt685.2.1 == t676))) = true then (some false) else (if (!(bt689.1 == t675) || (!(bt689.2.1 == t676))) = true then (some false) else ((impl_IsEnd.f kj6 t675 t676).bind fun t693 => (if t693 = true then (laws_FnEnds.j1 kj6 l0) else (some false))))) else (some false)) else (some false)) else (some false))))) else (laws_FnEnds.j1 kj6 l0)) = some r := by rw [if_neg (show ¬ (false = true) by decide)] at H; exact H
     clear H
     have H := H1
     clear H1
     have HC21 := Aside0.mk H
     clear H
     go_upto_if 75 with (fail)
     go_cut [] (fun wc => ∃ (kq : Nat), Aside0 (laws_FnEnds.j1 kq l0 = some r) ∧ Aside0 (kq ≤ kj6) ∧ Aside0 (wc.heap[gb678]? = some (.cells #[.int .i64 t675, .int .i64 t676] 27 (0, 0))) ∧ Aside0 (wc.heap[gb682]? = some (.cells #[.int .i64 t679, .int .i64 t680] 27 (0, 0))) ∧ Aside0 (Below w.heap.size w wc))
     case first =>
      as_aux_lemma =>
      have H := HC21.out
      clear HC21
      replace H := ii H
      rcases H with ⟨c22, H⟩ | ⟨c22, H⟩
      ·obtain ⟨c22b0, c22b1⟩ := zz c22
       clear c22
       (first | rw [c22b0] | (simp only [i64_w, i32_w]; rw [c22b0]) | skip)
       replace H := zi H
       obtain ⟨⟨t683, t684⟩, A23, H⟩ := H
       try dsimp only at H
       replace H := zi H
       obtain ⟨⟨t685, t686, t687⟩, A24, H⟩ := H
       try dsimp only at H
       replace H := zi H
       obtain ⟨⟨t689, t690, t691⟩, A25, H⟩ := H
       try dsimp only at H
       replace H := ii H
       rcases H with ⟨c26, H⟩ | ⟨c26, H⟩
       ·obtain ⟨c26b0, c26b1⟩ := zz c26
        clear c26
        replace H := ii H
        rcases H with ⟨c27, H⟩ | ⟨c27, H⟩
        ·obtain ⟨c27b0, c27b1⟩ := zz c27
         clear c27
         replace H := ii H
         rcases H with ⟨c28, H⟩ | ⟨c28, H⟩
         ·obtain ⟨c28b0, c28b1⟩ := zz c28
          clear c28
          replace H := ii H
          rcases H with ⟨c29, H⟩ | ⟨c29, H⟩
          ·have c29b0 : (!(t685 == t675) || (!(t686 == t676))) = true := c29
           clear c29
           exact absurd ((Option.some.inj H).trans hr.out) (by simp)
          ·have c29b0 : (!(t685 == t675) || (!(t686 == t676))) = false := by simpa using c29
           clear c29
           replace H := ii H
           rcases H with ⟨c30, H⟩ | ⟨c30, H⟩
           ·have c30b0 : (!(t689 == t675) || (!(t690 == t676))) = true := c30
            clear c30
            exact absurd ((Option.some.inj H).trans hr.out) (by simp)
           ·have c30b0 : (!(t689 == t675) || (!(t690 == t676))) = false := by simpa using c30
            clear c30
            replace H := zi H
            obtain ⟨t693, A31, H⟩ := H
            try dsimp only at H
            by_cases c32 : t693 = true
            ·subst c32
             rw [if_pos rfl] at H
             have H' := Aside0.mk H
             clear H
             obtain ⟨hcz34_0, hcz34_1, hfz34_0, hfz34_1⟩ := z2 BK678
             go_wp2_with (first | ((with_reducible refine zf 8 rfl ?_); refine g1 (some 78) Tryz.func8 #[.agg #[.int .i64 t675, .int .i64 t676]] ?_; (with_reducible refine (impl_EndText.calls kj6 t675 t676 t683 t684 _ A23.out).mono ?_); rintro e w35 ⟨rfl, hb⟩; refine ⟨_, rfl, ?_⟩; replace BK678 := bb BK678 hb; replace BK682 := bb BK682 hb; replace HB := bs hb; (try clear hb)) | ((with_reducible refine zf 9 rfl ?_); refine g1 (some 83) Tryz.func9 #[.string t683] ?_; (with_reducible refine (impl_ParseEnd.calls kj6 t683 t685 t686 t687 _ A24.out).mono ?_); rintro e w36 ⟨rfl, hb⟩; refine ⟨_, rfl, ?_⟩; replace BK678 := bb BK678 hb; replace BK682 := bb BK682 hb; replace HB := bs hb; (try clear hb)) | ((with_reducible refine zg 11 rfl ?_); refine zb 11 27 #[.int .i64 0, .int .i64 0] ?_; intro gb688 hg w37 BK688 hb; have GW688 := sg hg; have NB678_688 := nl hg BK678; have NB682_688 := nl hg BK682; replace BK678 := bb BK678 hb; replace BK682 := bb BK682 hb; replace HB := bs hb; clear hb hg; obtain ⟨hnb38, hnc38⟩ := zm NB678_688; obtain ⟨hcz40_0, hcz40_1, hfz40_0, hfz40_1⟩ := z2 BK688; obtain ⟨hcz41_0, hcz41_1, hfz41_0, hfz41_1⟩ := z2 BK678) | ((with_reducible refine zf 6 rfl ?_); refine g1 (some 91) Tryz.func6 #[.int .i64 t675, .int .i64 t676] ?_; (with_reducible refine (impl_EndOf.calls kj6 t675 t676 t689 t690 t691 _ A25.out).mono ?_); rintro e w42 ⟨rfl, hb⟩; refine ⟨_, rfl, ?_⟩; replace BK678 := Aside0.mk (blk_below (g := gb678) (o := .cells #[.int .i64 t675, .int .i64 t676] 27 (0, 0)) (bp) hb); replace BK682 := Aside0.mk (blk_below (g := gb682) (o := .cells #[.int .i64 t679, .int .i64 t680] 27 (0, 0)) (bp) hb); replace BK688 := Aside0.mk (blk_below (g := gb688) (o := .cells #[.int .i64 t685, .int .i64 t686] 27 (0, 0)) (bp) hb); replace HB := bs hb; (try clear hb)) | ((with_reducible refine zg 13 rfl ?_); refine zb 13 27 #[.int .i64 0, .int .i64 0] ?_; intro gb692 hg w43 BK692 hb; have GW692 := sg hg; have NB678_692 := nl hg BK678; have NB682_692 := nl hg BK682; have NB688_692 := nl hg BK688; replace BK678 := bb BK678 hb; replace BK682 := bb BK682 hb; replace BK688 := bb BK688 hb; replace HB := bs hb; clear hb hg; obtain ⟨hnb44, hnc44⟩ := zm NB678_692; obtain ⟨hnb46, hnc46⟩ := zm NB688_692; obtain ⟨hcz47_0, hcz47_1, hfz47_0, hfz47_1⟩ := z2 BK692; obtain ⟨hcz48_0, hcz48_1, hfz48_0, hfz48_1⟩ := z2 BK688; obtain ⟨hcz49_0, hcz49_1, hfz49_0, hfz49_1⟩ := z2 BK678) | (go_at_call 10; (with_reducible refine (impl_IsEnd.calls kj6 t675 t676 true _ A31.out).mono ?_); rintro e w50 ⟨rfl, hb⟩; replace BK678 := Aside0.mk (blk_below (g := gb678) (o := .cells #[.int .i64 t675, .int .i64 t676] 27 (0, 0)) (bp) hb); replace BK682 := Aside0.mk (blk_below (g := gb682) (o := .cells #[.int .i64 t679, .int .i64 t680] 27 (0, 0)) (bp) hb); replace BK688 := Aside0.mk (blk_below (g := gb688) (o := .cells #[.int .i64 t685, .int .i64 t686] 27 (0, 0)) (bp) hb); replace BK692 := Aside0.mk (blk_below (g := gb692) (o := .cells #[.int .i64 t689, .int .i64 t690] 27 (0, 0)) (bp) hb); replace HB := bs hb; (try clear hb)))
             go_meet
             case rel => go_light; exact ⟨_, H', ⟨by have := HJ6.out; first | omega | exact Nat.le_refl _⟩, ⟨be BK678⟩, ⟨be BK682⟩, ⟨bl⟩⟩
            ·replace c32 := Bool.eq_false_iff.mpr c32
             subst c32
             have H1 : (some false) = some r := by rw [if_neg (show ¬ (false = true) by decide)] at H; exact H
             clear H
             have H := H1
             clear H1
             exact absurd ((Option.some.inj H).trans hr.out) (by simp)
         ·obtain ⟨c28b0, c28b1⟩ := zy c28
          exact absurd ((Option.some.inj H).trans hr.out) (by simp)
        ·obtain ⟨c27b0, c27b1⟩ := zy c27
         exact absurd ((Option.some.inj H).trans hr.out) (by simp)
       ·obtain ⟨c26b0, c26b1⟩ := zy c26
        exact absurd ((Option.some.inj H).trans hr.out) (by simp)
      ·obtain ⟨c22b0, c22b1⟩ := zy c22
       (first | rw [c22b0] | (simp only [i64_w, i32_w]; rw [c22b0]) | skip)
       have H' := Aside0.mk H
       clear H
       go_wp2
       go_meet
       case rel => go_light; exact ⟨_, H', ⟨by have := HJ6.out; first | omega | exact Nat.le_refl _⟩, ⟨be BK678⟩, ⟨be BK682⟩, ⟨bl⟩⟩
     case rest =>
      clear HC21
      obtain ⟨kq, HA, HJ20, BK678, BK682, HB⟩ := hcut
      cases kq with
      | zero => exact absurd HA.out (by simp [laws_FnEnds.j1])
      | succ kj20 =>
       have H := HA.out
       clear HA
       rw [laws_FnEnds.j1] at H
       replace H := zi H
       obtain ⟨⟨t694, t695, t696, t697⟩, A51, H⟩ := H
       try dsimp only at H
       replace H := zi H
       obtain ⟨⟨t699, t700⟩, A52, H⟩ := H
       try dsimp only at H
       replace H := zi H
       obtain ⟨⟨t701, t702⟩, A53, H⟩ := H
       try dsimp only at H
       have HC54 := Aside0.mk H
       clear H
       go_upto_region 17 with (first | ((with_reducible refine zf 11 rfl ?_); refine g1 (some 121) Tryz.func11 #[.slice A0 l0.length c0] ?_; (with_reducible refine (spec_DrawBallText.calls kj20 _ _ l0 t694 t695 t696 t697 _ ?side1 ?side2 A51.out).mono ?_); (case side1 => repeat (first | exact (Kd.C_below HR0.out HB.out) | (with_reducible refine Kd.C_alloc ?_ _) | (with_reducible refine Kd.C_drewN ?_ _) | (with_reducible refine Kd.C_drew ?_))); (case side2 => exact HC0.out); rintro e w55 ⟨rfl, hb⟩; refine ⟨_, rfl, ?_⟩; replace BK678 := bb BK678 hb; replace BK682 := bb BK682 hb; replace HB := bs hb; (try clear hb)) | ((with_reducible refine zg 16 rfl ?_); refine z3 16 35 0 0 0 ?_; intro gb698 hg w56 BK698 hb; have GW698 := sg hg; have NB678_698 := nl hg BK678; have NB682_698 := nl hg BK682; replace BK678 := bb BK678 hb; replace BK682 := bb BK682 hb; replace HB := bs hb; clear hb hg; obtain ⟨hcz59_0, hcz59_1, hcz59_2, hfz59_0, hfz59_1, hfz59_2⟩ := cq3 BK698) | ((with_reducible refine zf 12 rfl ?_); refine g1 (some 127) Tryz.func12 #[.int .i64 t694, .agg #[.int .i64 t695, .int .i64 t696, .int .i64 t697]] ?_; (with_reducible refine (impl_BallText.calls kj20 t694 t695 t696 t697 t699 t700 _ A52.out).mono ?_); rintro e w60 ⟨rfl, hb⟩; refine ⟨_, rfl, ?_⟩; replace BK678 := Aside0.mk (blk_below (g := gb678) (o := .cells #[.int .i64 t675, .int .i64 t676] 27 (0, 0)) (bp) hb); replace BK682 := Aside0.mk (blk_below (g := gb682) (o := .cells #[.int .i64 t679, .int .i64 t680] 27 (0, 0)) (bp) hb); replace BK698 := Aside0.mk (blk_below (g := gb698) (o := .cells #[.int .i64 t695, .int .i64 t696, .int .i64 t697] 35 (0, 0)) (bp) hb); replace HB := bs hb; (try clear hb); obtain ⟨hcz61_0, hcz61_1, hcz61_2, hfz61_0, hfz61_1, hfz61_2⟩ := cq3 BK698) | ((with_reducible refine zf 13 rfl ?_); refine g1 (some 133) Tryz.func13 #[.int .i64 t694, .agg #[.int .i64 t695, .int .i64 t696, .int .i64 t697]] ?_; (with_reducible refine (spec_BallText.calls kj20 t694 t695 t696 t697 t701 t702 _ A53.out).mono ?_); rintro e w62 ⟨rfl, hb⟩; refine ⟨_, rfl, ?_⟩; replace BK678 := bb BK678 hb; replace BK682 := bb BK682 hb; replace BK698 := bb BK698 hb; replace HB := bs hb; (try clear hb)))
       (try simp only [Act.put, zq, zr, zt])
       go_cut [143] (fun v143 wc => ∃ (kq : Nat) (x143_53 : Bool), v143 = .bool x143_53 ∧ Aside0 (laws_FnEnds.j2 kq l0 t694 t699 t700 x143_53 t695 t696 t697 = some r) ∧ Aside0 (kq ≤ kj20) ∧ Aside0 (wc.heap[gb678]? = some (.cells #[.int .i64 t675, .int .i64 t676] 27 (0, 0))) ∧ Aside0 (wc.heap[gb682]? = some (.cells #[.int .i64 t679, .int .i64 t680] 27 (0, 0))) ∧ Aside0 (wc.heap[gb698]? = some (.cells #[.int .i64 t695, .int .i64 t696, .int .i64 t697] 35 (0, 0))) ∧ Aside0 (Below w.heap.size w wc))
       case first =>
        as_aux_lemma =>
        have H := HC54.out
        clear HC54
        replace H := ii H
        rcases H with ⟨c63, H⟩ | ⟨c63, H⟩
        ·obtain ⟨c63b0, c63b1⟩ := zz c63
         clear c63
         (first | rw [c63b0] | (simp only [i64_w, i32_w]; rw [c63b0]) | skip)
         have H' := Aside0.mk H
         clear H
         go_wp2
         go_meet
         case rel => go_light; exact ⟨_, ((t699.toList != t701.toList)), (by first | rfl | (simp; done) | (simp [*]; done)), H', ⟨by have := HJ6.out; have := HJ20.out; first | omega | exact Nat.le_refl _⟩, ⟨be BK678⟩, ⟨be BK682⟩, ⟨be BK698⟩, ⟨bl⟩⟩
        ·obtain ⟨c63b0, c63b1⟩ := zy c63
         (first | rw [c63b0] | (simp only [i64_w, i32_w]; rw [c63b0]) | skip)
         have H' := Aside0.mk H
         clear H
         go_wp2
         go_meet
         case rel => go_light; exact ⟨_, (true), (by first | rfl | (simp; done) | (simp [*]; done)), H', ⟨by have := HJ6.out; have := HJ20.out; first | omega | exact Nat.le_refl _⟩, ⟨be BK678⟩, ⟨be BK682⟩, ⟨be BK698⟩, ⟨bl⟩⟩
       case rest =>
        clear hcz59_0 hcz59_1 hcz59_2 hfz59_0 hfz59_1 hfz59_2 hcz61_0 hcz61_1 hcz61_2 hfz61_0 hfz61_1 hfz61_2
        clear HC54
        obtain ⟨kq, x143_53, rfl, HA, HJ53, BK678, BK682, BK698, HB⟩ := hcut
        cases kq with
        | zero => exact absurd HA.out (by simp [laws_FnEnds.j2])
        | succ kj53 =>
         have H := HA.out
         clear HA
         rw [laws_FnEnds.j2] at H
         by_cases c64 : x143_53 = true
         ·subst c64
          rw [if_pos rfl] at H
          exact absurd ((Option.some.inj H).trans hr.out) (by simp)
         ·replace c64 := Bool.eq_false_iff.mpr c64
          subst c64
          have H1 : (if t700 = 0 then ((impl_ParseBall.f kj53 t694 t699).bind fun bt703 => (if bt703.2.2.2 = 0 then (if (!(bt703.1 == t695) || (!(bt703.2.1 == t696) || (!(bt703.2.2.1 == t697)))) = true then (some false) else (laws_FnEnds.j3 kj53 l0)) else (some false))) else (laws_FnEnds.j3 kj53 l0)) = some r := by rw [if_neg (show ¬ (false = true) by decide)] at H; exact H
          clear H
          have H := H1
          clear H1
          have HC65 := Aside0.mk H
          clear H
          go_upto_if 145 with (fail)
          go_cut [] (fun wc => ∃ (kq : Nat), Aside0 (laws_FnEnds.j3 kq l0 = some r) ∧ Aside0 (kq ≤ kj53) ∧ Aside0 (wc.heap[gb678]? = some (.cells #[.int .i64 t675, .int .i64 t676] 27 (0, 0))) ∧ Aside0 (wc.heap[gb682]? = some (.cells #[.int .i64 t679, .int .i64 t680] 27 (0, 0))) ∧ Aside0 (wc.heap[gb698]? = some (.cells #[.int .i64 t695, .int .i64 t696, .int .i64 t697] 35 (0, 0))) ∧ Aside0 (Below w.heap.size w wc))
          case first =>
           as_aux_lemma =>
           have H := HC65.out
           clear HC65
           replace H := ii H
           rcases H with ⟨c66, H⟩ | ⟨c66, H⟩
           ·obtain ⟨c66b0, c66b1⟩ := zz c66
            clear c66
            (first | rw [c66b0] | (simp only [i64_w, i32_w]; rw [c66b0]) | skip)
            replace H := zi H
            obtain ⟨⟨t703, t704, t705, t706⟩, A67, H⟩ := H
            try dsimp only at H
            replace H := ii H
            rcases H with ⟨c68, H⟩ | ⟨c68, H⟩
            ·obtain ⟨c68b0, c68b1⟩ := zz c68
             clear c68
             replace H := ii H
             rcases H with ⟨c69, H⟩ | ⟨c69, H⟩
             ·have c69b0 : (!(t703 == t695) || (!(t704 == t696) || (!(t705 == t697)))) = true := c69
              clear c69
              exact absurd ((Option.some.inj H).trans hr.out) (by simp)
             ·have c69b0 : (!(t703 == t695) || (!(t704 == t696) || (!(t705 == t697)))) = false := by simpa using c69
              clear c69
              have H' := Aside0.mk H
              clear H
              go_wp2_with (first | ((with_reducible refine zf 14 rfl ?_); refine g1 (some 149) Tryz.func14 #[.int .i64 t694, .string t699] ?_; (with_reducible refine (impl_ParseBall.calls kj53 t694 t699 t703 t704 t705 t706 _ A67.out).mono ?_); rintro e w70 ⟨rfl, hb⟩; refine ⟨_, rfl, ?_⟩; replace BK678 := bb BK678 hb; replace BK682 := bb BK682 hb; replace BK698 := bb BK698 hb; replace HB := bs hb; (try clear hb)) | ((with_reducible refine zg 21 rfl ?_); refine z3 21 35 0 0 0 ?_; intro gb707 hg w71 BK707 hb; have GW707 := sg hg; have NB678_707 := nl hg BK678; have NB682_707 := nl hg BK682; have NB698_707 := nl hg BK698; replace BK678 := bb BK678 hb; replace BK682 := bb BK682 hb; replace BK698 := bb BK698 hb; replace HB := bs hb; clear hb hg; obtain ⟨hnb74, hnc74⟩ := zm NB698_707; obtain ⟨hcz75_0, hcz75_1, hcz75_2, hfz75_0, hfz75_1, hfz75_2⟩ := cq3 BK707; obtain ⟨hcz78_0, hcz78_1, hcz78_2, hfz78_0, hfz78_1, hfz78_2⟩ := cq3 BK698))
              go_meet
              case rel => go_light; exact ⟨_, H', ⟨by have := HJ6.out; have := HJ20.out; have := HJ53.out; first | omega | exact Nat.le_refl _⟩, ⟨bp⟩, ⟨bp⟩, ⟨bp⟩, ⟨bl⟩⟩
            ·obtain ⟨c68b0, c68b1⟩ := zy c68
             exact absurd ((Option.some.inj H).trans hr.out) (by simp)
           ·obtain ⟨c66b0, c66b1⟩ := zy c66
            (first | rw [c66b0] | (simp only [i64_w, i32_w]; rw [c66b0]) | skip)
            have H' := Aside0.mk H
            clear H
            go_wp2
            go_meet
            case rel => go_light; exact ⟨_, H', ⟨by have := HJ6.out; have := HJ20.out; have := HJ53.out; first | omega | exact Nat.le_refl _⟩, ⟨be BK678⟩, ⟨be BK682⟩, ⟨be BK698⟩, ⟨bl⟩⟩
          case rest =>
           obtain ⟨kq, HA, HJ64, BK678, BK682, BK698, HB⟩ := hcut
           refine ‹∀ (a : Act) (w : World), Code.wp _ _ _ a w → _› _ _ ?_
           exact laws_FnEnds.part HA HJ64 BK678 BK682 BK698 HB GW678 GW682 GW698 NB678_682 NB678_698 NB682_698 HR0 HC0 hr htab
/-- THE ONE PURE STATEMENT of laws_FnEnds: yours. -/
theorem laws_FnEnds.walk (P : laws_FnEnds.Pure) (a0 : Option Addr) (len0 cap0 : Nat) (z0 : List Int) (w : World) (w0 : (a0 = none ∧ len0 = 0 ∧ cap0 = 0 ∧ z0 = []) ∨ ∃ x, a0 = some x ∧ len0 ≤ cap0 ∧ cap0 ≤ maxLen ∧ z0.length = cap0 ∧ (∀ i, i < z0.length → w.cell? (x.add i) = some (.int .u8 (z0.getD i 0))) ∧ ∀ n ∈ z0, (Lit.int .u8 n).wf = true) (y0 : len0 * 1 ≤ 140737488351232) (htab : TabW w) :
  Calls Tryz.prog 3 #[.slice a0 len0 cap0] w fun e w' => e = .returned (.bool true) ∧ Below w.heap.size w w' := by
 obtain ⟨l0, rfl, hr0, hm0, hw0, hc0⟩ := ReadsInt.ofRowC w0
 obtain ⟨k, h⟩ := P l0 hm0 y0 hw0
 refine (laws_FnEnds.calls k _ _ l0 true w ⟨rfl⟩ (Kd.C_of_reads (d := (0 : Int)) (h1 := fun _ => rfl) hr0) hc0 h htab).mono ?_
 rintro e w' ⟨rfl, hd⟩
 exact ⟨rfl, hd⟩
end Go.Proofs.YtgdkmchphpjifaaGreatDoor.PFnEnds

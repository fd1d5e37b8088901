-- Printed by the kit's print and repaired by a program of this session.
import Derived.Test.YtpmepopagapeiaaPFnBallsx0
import Derived.Test.YtpmepopagapeiaaPFnBallsx1
import Derived.Test.YtpmepopagapeiaaPFnBallsx2
import Derived.Test.YtpmepopagapeiaaPFnBallsx3
import Derived.Test.YtpmepopagapeiaaPFnBallsx4
import Derived.Test.YtpmepopagapeiaaPFnBallsx5
import Derived.Test.YtpmepopagapeiaaPFnBallsx7
import Derived.Test.YtpmepopagapeiaaPFnBallsx8
import Derived.Test.YtpmepopagapeiaaPFnBallsx9
import Derived.Test.YtpmepopagapeiaaPFnBallsx11
import Derived.Test.YtpmepopagapeiaaPFnBallsx13
import Derived.Test.YtpmepopagapeiaaPFnBallsx14
import Derived.Test.YtpmepopagapeiaaPFnBallsx15
import Derived.Test.YtpmepopagapeiaaPFnBallsx16
import Derived.Test.YtpmepopagapeiaaPFnBallsx18
import Derived.Test.YtpmepopagapeiaaPFnBallsx19
import Derived.Deep.Light
import Derived.Test.YtpmepopagapeiaaPFnBallsx20
import Derived.Test.YtpmepopagapeiaaPFnBallsx21
import Derived.Test.YtpmepopagapeiaaPFnBallsx22
import Derived.Test.YtpmepopagapeiaaPFnBallsx23
namespace Go.Proofs.Ytpmepopagapeiaa.PFnBalls
open Go.RowKit Go.Proofs.YtpmepopagapeiaaW.PrintWords Go.Proofs.YtpmepopagapeiaaW.PrintLast Go.Proofs.YtpmepopagapeiaaW.PrintMore
attribute [local go_sem] max2_int min2_int max_two min_two max_three min_three max_four min_four
set_option linter.unusedVariables false
set_option linter.unusedSimpArgs false

attribute [local go_sem high] eqA27 eqA63
set_option maxHeartbeats 60000000 in
set_option maxRecDepth 100000 in
theorem laws_FnBalls.calls (k : Nat) (A0 : Option Addr) (c0 : Nat) (l0 : List Int) (r : Bool) (w : World) (hr : Aside0 (r = true)) (hr0 : Kd.C (Kd.int .u8) w A0 l0.length l0) (hc0 : l0.length ≤ c0) (h : laws_FnBalls.f k l0 = some r) :
  Calls Try.prog 10 #[.slice A0 l0.length c0] w fun e w' => e = .returned (.bool r) ∧ Below w.heap.size w w' := by
 have hu27 := Try.underlying27
 have hu63 := Try.underlying63
 have HR0 := Aside0.mk hr0
 have HC0 := Aside0.mk hc0
 clear hr0 hc0
 have HB := Aside0.mk (Below.refl w.heap.size w)
 unfold laws_FnBalls.f at h
 have H := h
 clear h
 replace H := zi H
 obtain ⟨t627, A2, H⟩ := H
 try dsimp only at H
 by_cases c3 : t627 = true
 ·subst c3
  rw [if_pos rfl] at H
  obtain rfl := Option.some.inj H
  go_enter Try.func10, Try.ntmps10
  go_wp2_with (first | ((with_reducible refine zf 21 rfl ?_); refine g1 (some 57) Try.func21 #[.slice A0 l0.length c0] ?_; (with_reducible refine (laws_big.calls _ _ l0 true _ ?side1 ?side2 A2.out).mono ?_); (case side1 => repeat (first | exact HR0.out | (with_reducible refine Kd.C_alloc ?_ _) | (with_reducible refine Kd.C_drewN ?_ _) | (with_reducible refine Kd.C_drew ?_))); (case side2 => exact HC0.out); rintro e w' ⟨rfl, ⟨nd, rfl⟩⟩; refine ⟨_, rfl, ?_⟩))
  go_ret
  exact ⟨er, bl⟩
 ·replace c3 := Bool.eq_false_iff.mpr c3
  subst c3
  have H1 : ((spec_DrawBallOf.f k l0).bind fun bt628 => ((impl_BallOf.f k bt628.1 bt628.2.1 bt628.2.2.1 bt628.2.2.2).bind fun bt632 => ((spec_BallOf.f k bt628.1 bt628.2.1 bt628.2.2.1 bt628.2.2.2).bind fun bt637 => (if bt632.2.2.2 = bt637.2.2.2 then (laws_FnBalls.j0 k l0 bt628.1 bt628.2.1 bt628.2.2.1 bt632.2.2.2 (!(bt632.1 == bt637.1) || (!(bt632.2.1 == bt637.2.1) || (!(bt632.2.2.1 == bt637.2.2.1)))) bt632.1 bt632.2.1 bt632.2.2.1) else (laws_FnBalls.j0 k l0 bt628.1 bt628.2.1 bt628.2.2.1 bt632.2.2.2 true bt632.1 bt632.2.1 bt632.2.2.1))))) = some r := by rw [if_neg (show ¬ (false = true) by decide)] at H; exact H
  clear H
  have H := H1
  clear H1
  replace H := zi H
  obtain ⟨⟨t628, t629, t630, t631⟩, A4, H⟩ := H
  try dsimp only at H
  replace H := zi H
  obtain ⟨⟨t632, t633, t634, t635⟩, A5, H⟩ := H
  try dsimp only at H
  replace H := zi H
  obtain ⟨⟨t637, t638, t639, t640⟩, A6, H⟩ := H
  try dsimp only at H
  have HC7 := Aside0.mk H
  clear H
  go_enter Try.func10, Try.ntmps10
  go_upto_region 6 with (first | ((with_reducible refine zf 21 rfl ?_); refine g1 (some 57) Try.func21 #[.slice A0 l0.length c0] ?_; (with_reducible refine (laws_big.calls _ _ l0 false _ ?side1 ?side2 A2.out).mono ?_); (case side1 => repeat (first | exact HR0.out | (with_reducible refine Kd.C_alloc ?_ _) | (with_reducible refine Kd.C_drewN ?_ _) | (with_reducible refine Kd.C_drew ?_))); (case side2 => exact HC0.out); rintro e w' ⟨rfl, ⟨nd, rfl⟩⟩; refine ⟨_, rfl, ?_⟩) | ((with_reducible refine zf 61 rfl ?_); refine g1 (some 60) Try.func61 #[.slice A0 l0.length c0] ?_; (with_reducible refine (spec_DrawBallOf.calls k _ _ l0 t628 t629 t630 t631 _ ?side1 ?side2 A4.out).mono ?_); (case side1 => repeat (first | exact HR0.out | (with_reducible refine Kd.C_alloc ?_ _) | (with_reducible refine Kd.C_drewN ?_ _) | (with_reducible refine Kd.C_drew ?_))); (case side2 => exact HC0.out); rintro e w8 ⟨rfl, hb⟩; refine ⟨_, rfl, ?_⟩; replace HB := bs hb; (try clear hb)) | ((with_reducible refine zf 62 rfl ?_); refine g1 (some 70) Try.func62 #[.int .i64 t628, .int .i64 t629, .int .i64 t630, .int .i64 t631] ?_; (with_reducible refine (impl_BallOf.calls k t628 t629 t630 t631 t632 t633 t634 t635 _ A5.out).mono ?_); rintro e w9 ⟨rfl, hb⟩; refine ⟨_, rfl, ?_⟩; replace HB := bs hb; (try clear hb)) | ((with_reducible refine zg 7 rfl ?_); refine z3 7 27 0 0 0 ?_; intro gb636 hg w10 BK636 hb; have GW636 := sg hg; replace HB := bs hb; clear hb hg; obtain ⟨hcz11_0, hcz11_1, hcz11_2, hfz11_0, hfz11_1, hfz11_2⟩ := cq3 BK636) | ((with_reducible refine zf 63 rfl ?_); refine g1 (some 78) Try.func63 #[.int .i64 t628, .int .i64 t629, .int .i64 t630, .int .i64 t631] ?_; (with_reducible refine (spec_BallOf.calls k t628 t629 t630 t631 t637 t638 t639 t640 _ A6.out).mono ?_); rintro e w12 ⟨rfl, hb⟩; refine ⟨_, rfl, ?_⟩; replace BK636 := Aside0.mk (blk_below (g := gb636) (o := .cells #[.int .i64 t632, .int .i64 t633, .int .i64 t634] 27 (0, 0)) (bp) hb); replace HB := bs hb; (try clear hb)) | ((with_reducible refine zg 9 rfl ?_); refine z3 9 27 0 0 0 ?_; intro gb641 hg w13 BK641 hb; have GW641 := sg hg; have NB636_641 := nl hg BK636; replace BK636 := bb BK636 hb; replace HB := bs hb; clear hb hg; obtain ⟨hnb14, hnc14⟩ := zm NB636_641; obtain ⟨hcz15_0, hcz15_1, hcz15_2, hfz15_0, hfz15_1, hfz15_2⟩ := cq3 BK641))
  (try simp only [Act.put, zq, zr, zt])
  go_cut [88] (fun v88 wc => ∃ (kq : Nat) (x88_6 : Bool), v88 = .bool x88_6 ∧ Aside0 (laws_FnBalls.j0 kq l0 t628 t629 t630 t635 x88_6 t632 t633 t634 = some r) ∧ Aside0 (kq ≤ k) ∧ Aside0 (wc.heap[gb636]? = some (.cells #[.int .i64 t632, .int .i64 t633, .int .i64 t634] 27 (0, 0))) ∧ Aside0 (wc.heap[gb641]? = some (.cells #[.int .i64 t637, .int .i64 t638, .int .i64 t639] 27 (0, 0))) ∧ Aside0 (Below w.heap.size w wc))
  case first =>
   as_aux_lemma =>
   have H := HC7.out
   clear HC7
   replace H := ii H
   rcases H with ⟨c16, H⟩ | ⟨c16, H⟩
   ·obtain ⟨c16b0, c16b1⟩ := zz c16
    clear c16
    (first | rw [c16b0] | (simp only [i64_w, i32_w]; rw [c16b0]) | skip)
    have H' := Aside0.mk H
    clear H
    obtain ⟨hnb17, hnc17⟩ := zn NB636_641
    obtain ⟨hcz18_0, hcz18_1, hcz18_2, hfz18_0, hfz18_1, hfz18_2⟩ := cq3 BK636
    obtain ⟨hcz19_0, hcz19_1, hcz19_2, hfz19_0, hfz19_1, hfz19_2⟩ := cq3 BK641
    go_wp2
    go_meet
    case rel => go_light; exact ⟨_, ((!(t632 == t637) || (!(t633 == t638) || (!(t634 == t639))))), (by first | rfl | (simp; done) | (simp [*]; done)), H', ⟨by first | omega | exact Nat.le_refl _⟩, ⟨bp⟩, ⟨bp⟩, ⟨bl⟩⟩
   ·obtain ⟨c16b0, c16b1⟩ := zy c16
    (first | rw [c16b0] | (simp only [i64_w, i32_w]; rw [c16b0]) | skip)
    have H' := Aside0.mk H
    clear H
    go_wp2
    go_meet
    case rel => go_light; exact ⟨_, (true), (by first | rfl | (simp; done) | (simp [*]; done)), H', ⟨by first | omega | exact Nat.le_refl _⟩, ⟨bp⟩, ⟨bp⟩, ⟨bl⟩⟩
  case rest =>
   clear hcz11_0 hcz11_1 hcz11_2 hfz11_0 hfz11_1 hfz11_2 hnb14 hnc14 hcz15_0 hcz15_1 hcz15_2 hfz15_0 hfz15_1 hfz15_2
   clear HC7
   obtain ⟨kq, x88_6, rfl, HA, HJ6, BK636, BK641, HB⟩ := hcut
   cases kq with
   | zero => exact absurd HA.out (by simp [laws_FnBalls.j0])
   | succ kj6 =>
    have H := HA.out
    clear HA
    rw [laws_FnBalls.j0] at H
    by_cases c20 : x88_6 = true
    ·subst c20
     rw [if_pos rfl] at H
     exact absurd ((Option.some.inj H).trans hr.out) (by simp)
    ·replace c20 := Bool.eq_false_iff.mpr c20
     subst c20
     have H1 : (if t635 = 0 then (if t629 ≥ (-1000000) then (if t629 ≤ 1000000 then (if t630 ≥ (-1000000) then (laws_FnBalls.j1 kj6 l0 t628 t629 t630 (decide (t630 ≤ 1000000)) t632 t633 t634) else (laws_FnBalls.j1 kj6 l0 t628 t629 t630 false t632 t633 t634)) else (laws_FnBalls.j1 kj6 l0 t628 t629 t630 false t632 t633 t634)) else (laws_FnBalls.j1 kj6 l0 t628 t629 t630 false t632 t633 t634)) else (laws_FnBalls.j1 kj6 l0 t628 t629 t630 false t632 t633 t634)) = some r := by rw [if_neg (show ¬ (false = true) by decide)] at H; exact H
     clear H
     have H := H1
     clear H1
     have HC21 := Aside0.mk H
     clear H
     go_upto_region 8 with (fail)
     go_cut [106] (fun v106 wc => ∃ (kq : Nat) (x106_20 : Bool), v106 = .bool x106_20 ∧ Aside0 (laws_FnBalls.j1 kq l0 t628 t629 t630 x106_20 t632 t633 t634 = some r) ∧ Aside0 (kq ≤ kj6) ∧ Aside0 (wc.heap[gb636]? = some (.cells #[.int .i64 t632, .int .i64 t633, .int .i64 t634] 27 (0, 0))) ∧ Aside0 (wc.heap[gb641]? = some (.cells #[.int .i64 t637, .int .i64 t638, .int .i64 t639] 27 (0, 0))) ∧ Aside0 (Below w.heap.size w wc))
     case first =>
      as_aux_lemma =>
      have H := HC21.out
      clear HC21
      replace H := ii H
      rcases H with ⟨c22, H⟩ | ⟨c22, H⟩
      ·obtain ⟨c22b0, c22b1⟩ := zz c22
       clear c22
       (first | rw [c22b0] | (simp only [i64_w, i32_w]; rw [c22b0]) | skip)
       replace H := ii H
       rcases H with ⟨c23, H⟩ | ⟨c23, H⟩
       ·have c23b0 := decide_eq_true c23
        clear c23
        replace H := ii H
        rcases H with ⟨c24, H⟩ | ⟨c24, H⟩
        ·have c24b0 := decide_eq_true c24
         clear c24
         replace H := ii H
         rcases H with ⟨c25, H⟩ | ⟨c25, H⟩
         ·have c25b0 := decide_eq_true c25
          clear c25
          have H' := Aside0.mk H
          clear H
          go_wp2
          go_meet
          case rel => go_light; exact ⟨_, (decide (t630 ≤ 1000000)), (by first | rfl | (simp; done) | (simp [*]; done)), H', ⟨by have := HJ6.out; first | omega | exact Nat.le_refl _⟩, ⟨be BK636⟩, ⟨be BK641⟩, ⟨bl⟩⟩
         ·have c25b0 := decide_eq_false c25
          clear c25
          have H' := Aside0.mk H
          clear H
          go_wp2
          go_meet
          case rel => go_light; exact ⟨_, (false), (by first | rfl | (simp; done) | (simp [*]; done)), H', ⟨by have := HJ6.out; first | omega | exact Nat.le_refl _⟩, ⟨be BK636⟩, ⟨be BK641⟩, ⟨bl⟩⟩
        ·have c24b0 := decide_eq_false c24
         clear c24
         have H' := Aside0.mk H
         clear H
         go_wp2
         go_meet
         case rel => go_light; exact ⟨_, (false), (by first | rfl | (simp; done) | (simp [*]; done)), H', ⟨by have := HJ6.out; first | omega | exact Nat.le_refl _⟩, ⟨be BK636⟩, ⟨be BK641⟩, ⟨bl⟩⟩
       ·have c23b0 := decide_eq_false c23
        clear c23
        have H' := Aside0.mk H
        clear H
        go_wp2
        go_meet
        case rel => go_light; exact ⟨_, (false), (by first | rfl | (simp; done) | (simp [*]; done)), H', ⟨by have := HJ6.out; first | omega | exact Nat.le_refl _⟩, ⟨be BK636⟩, ⟨be BK641⟩, ⟨bl⟩⟩
      ·obtain ⟨c22b0, c22b1⟩ := zy c22
       (first | rw [c22b0] | (simp only [i64_w, i32_w]; rw [c22b0]) | skip)
       have H' := Aside0.mk H
       clear H
       go_wp2
       go_meet
       case rel => go_light; exact ⟨_, (false), (by first | rfl | (simp; done) | (simp [*]; done)), H', ⟨by have := HJ6.out; first | omega | exact Nat.le_refl _⟩, ⟨be BK636⟩, ⟨be BK641⟩, ⟨bl⟩⟩
     case rest =>
      clear HC21
      obtain ⟨kq, x106_20, rfl, HA, HJ20, BK636, BK641, HB⟩ := hcut
      cases kq with
      | zero => exact absurd HA.out (by simp [laws_FnBalls.j1])
      | succ kj20 =>
       have H := HA.out
       clear HA
       rw [laws_FnBalls.j1] at H
       have HC26 := Aside0.mk H
       clear H
       go_upto_if 106 with (fail)
       go_cut [] (fun wc => ∃ (kq : Nat), Aside0 (laws_FnBalls.j2 kq l0 = some r) ∧ Aside0 (kq ≤ kj20) ∧ Aside0 (wc.heap[gb636]? = some (.cells #[.int .i64 t632, .int .i64 t633, .int .i64 t634] 27 (0, 0))) ∧ Aside0 (wc.heap[gb641]? = some (.cells #[.int .i64 t637, .int .i64 t638, .int .i64 t639] 27 (0, 0))) ∧ Aside0 (Below w.heap.size w wc))
       case first =>
        as_aux_lemma =>
        have H := HC26.out
        clear HC26
        by_cases c27 : x106_20 = true
        ·subst c27
         rw [if_pos rfl] at H
         replace H := zi H
         obtain ⟨⟨t642, t643⟩, A28, H⟩ := H
         try dsimp only at H
         replace H := ii H
         rcases H with ⟨c29, H⟩ | ⟨c29, H⟩
         ·obtain ⟨c29b0, c29b1⟩ := zz c29
          clear c29
          (first | rw [c29b0] | (simp only [i64_w, i32_w]; rw [c29b0]) | skip)
          by_cases c30 : t642 = true
          ·subst c30
           rw [if_pos rfl] at H
           replace H := zi H
           obtain ⟨t644, A31, H⟩ := H
           try dsimp only at H
           by_cases c32 : t644 = true
           ·subst c32
            rw [if_pos rfl] at H
            have H' := Aside0.mk H
            clear H
            obtain ⟨hcz34_0, hcz34_1, hcz34_2, hfz34_0, hfz34_1, hfz34_2⟩ := cq3 BK636
            go_wp2_with (first | ((with_reducible refine zf 64 rfl ?_); refine g1 (some 112) Try.func64 #[.int .i64 t628, .agg #[.int .i64 t632, .int .i64 t633, .int .i64 t634], .int .i64 t629, .int .i64 t630] ?_; (with_reducible refine (impl_HoldsFraction.calls kj20 t628 t632 t633 t634 t629 t630 true t643 _ A28.out).mono ?_); rintro e w35 ⟨rfl, hb⟩; refine ⟨_, rfl, ?_⟩; replace BK636 := bb BK636 hb; replace BK641 := bb BK641 hb; replace HB := bs hb; (try clear hb); obtain ⟨hcz36_0, hcz36_1, hcz36_2, hfz36_0, hfz36_1, hfz36_2⟩ := cq3 BK636) | (go_at_call 65; (with_reducible refine (impl_IsBall.calls kj20 t628 t632 t633 t634 true _ A31.out).mono ?_); rintro e w37 ⟨rfl, hb⟩; replace BK636 := bb BK636 hb; replace BK641 := bb BK641 hb; replace HB := bs hb; (try clear hb)))
            go_meet
            case rel => go_light; exact ⟨_, H', ⟨by have := HJ6.out; have := HJ20.out; first | omega | exact Nat.le_refl _⟩, ⟨be BK636⟩, ⟨be BK641⟩, ⟨bl⟩⟩
           ·replace c32 := Bool.eq_false_iff.mpr c32
            subst c32
            have H1 : (some false) = some r := by rw [if_neg (show ¬ (false = true) by decide)] at H; exact H
            clear H
            have H := H1
            clear H1
            exact absurd ((Option.some.inj H).trans hr.out) (by simp)
          ·replace c30 := Bool.eq_false_iff.mpr c30
           subst c30
           have H1 : (some false) = some r := by rw [if_neg (show ¬ (false = true) by decide)] at H; exact H
           clear H
           have H := H1
           clear H1
           exact absurd ((Option.some.inj H).trans hr.out) (by simp)
         ·obtain ⟨c29b0, c29b1⟩ := zy c29
          (first | rw [c29b0] | (simp only [i64_w, i32_w]; rw [c29b0]) | skip)
          exact absurd ((Option.some.inj H).trans hr.out) (by simp)
        ·replace c27 := Bool.eq_false_iff.mpr c27
         subst c27
         have H1 : (laws_FnBalls.j2 kj20 l0) = some r := by rw [if_neg (show ¬ (false = true) by decide)] at H; exact H
         clear H
         have H := H1
         clear H1
         have H' := Aside0.mk H
         clear H
         go_wp2
         go_meet
         case rel => go_light; exact ⟨_, H', ⟨by have := HJ6.out; have := HJ20.out; first | omega | exact Nat.le_refl _⟩, ⟨be BK636⟩, ⟨be BK641⟩, ⟨bl⟩⟩
       case rest =>
        obtain ⟨kq, HA, HJ25, BK636, BK641, HB⟩ := hcut
        refine ‹∀ (a : Act) (w : World), Code.wp _ _ _ a w → _› _ _ ?_
        exact laws_FnBalls.part3 HA HJ25 BK636 BK641 HB GW636 GW641 NB636_641 HR0 HC0 hr
/-- THE ONE PURE STATEMENT of laws_FnBalls: yours. -/
theorem laws_FnBalls.walk (P : laws_FnBalls.Pure) (a0 : Option Addr) (len0 cap0 : Nat) (z0 : List Int) (w : World) (w0 : (a0 = none ∧ len0 = 0 ∧ cap0 = 0 ∧ z0 = []) ∨ ∃ x, a0 = some x ∧ len0 ≤ cap0 ∧ cap0 ≤ maxLen ∧ z0.length = cap0 ∧ (∀ i, i < z0.length → w.cell? (x.add i) = some (.int .u8 (z0.getD i 0))) ∧ ∀ n ∈ z0, (Lit.int .u8 n).wf = true) (y0 : len0 * 1 ≤ 140737488351232) :
  Calls Try.prog 10 #[.slice a0 len0 cap0] w fun e w' => e = .returned (.bool true) ∧ Below w.heap.size w w' := by
 obtain ⟨l0, rfl, hr0, hm0, hw0, hc0⟩ := ReadsInt.ofRowC w0
 obtain ⟨k, h⟩ := P l0 hm0 y0 hw0
 refine (laws_FnBalls.calls k _ _ l0 true w ⟨rfl⟩ (Kd.C_of_reads (d := (0 : Int)) (h1 := fun _ => rfl) hr0) hc0 h).mono ?_
 rintro e w' ⟨rfl, hd⟩
 exact ⟨rfl, hd⟩
end Go.Proofs.Ytpmepopagapeiaa.PFnBalls

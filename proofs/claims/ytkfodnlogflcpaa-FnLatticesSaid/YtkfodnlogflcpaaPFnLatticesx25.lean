-- Printed by the kit's print and repaired by a program of this session.
import Derived.Test.YtkfodnlogflcpaaPFnLatticesx0
import Derived.Test.YtkfodnlogflcpaaPFnLatticesx1
import Derived.Test.YtkfodnlogflcpaaPFnLatticesx2
import Derived.Test.YtkfodnlogflcpaaPFnLatticesx3
import Derived.Test.YtkfodnlogflcpaaPFnLatticesx6
import Derived.Test.YtkfodnlogflcpaaPFnLatticesx7
import Derived.Test.YtkfodnlogflcpaaPFnLatticesx8
import Derived.Test.YtkfodnlogflcpaaPFnLatticesx9
import Derived.Test.YtkfodnlogflcpaaPFnLatticesx10
import Derived.Test.YtkfodnlogflcpaaPFnLatticesx11
import Derived.Test.YtkfodnlogflcpaaPFnLatticesx12
import Derived.Test.YtkfodnlogflcpaaPFnLatticesx13
import Derived.Test.YtkfodnlogflcpaaPFnLatticesx14
import Derived.Test.YtkfodnlogflcpaaPFnLatticesx15
import Derived.Test.YtkfodnlogflcpaaPFnLatticesx19
import Derived.Test.YtkfodnlogflcpaaPFnLatticesx20
import Derived.Test.YtkfodnlogflcpaaPFnLatticesx21
import Derived.Deep.Light
import Derived.Test.YtkfodnlogflcpaaPFnLatticesx22
import Derived.Test.YtkfodnlogflcpaaPFnLatticesx23
import Derived.Test.YtkfodnlogflcpaaPFnLatticesx24
namespace Go.Proofs.Ytkfodnlogflcpaa.PFnLattices
open Go.RowKit Go.Proofs.YtkfodnlogflcpaaW.PrintWords Go.Proofs.YtkfodnlogflcpaaW.PrintLast Go.Proofs.YtkfodnlogflcpaaW.PrintMore
attribute [local go_sem] max2_int min2_int max_two min_two max_three min_three max_four min_four
set_option linter.unusedVariables false
set_option linter.unusedSimpArgs false

attribute [local go_sem high] eqA27 eqA50
set_option maxHeartbeats 8000000 in
set_option maxRecDepth 100000 in
theorem laws_FnLattices.calls (k : Nat) (A0 : Option Addr) (c0 : Nat) (l0 : List Int) (r : Bool) (w : World) (hr : Aside0 (r = true)) (hr0 : Kd.C (Kd.int .u8) w A0 l0.length l0) (hc0 : l0.length ≤ c0) (h : laws_FnLattices.f k l0 = some r) :
  Calls Try.prog 4 #[.slice A0 l0.length c0] w fun e w' => e = .returned (.bool r) ∧ Below w.heap.size w w' := by
 have hu27 := Try.underlying27
 have hu50 := Try.underlying50
 have HR0 := Aside0.mk hr0
 have HC0 := Aside0.mk hc0
 clear hr0 hc0
 have HB := Aside0.mk (Below.refl w.heap.size w)
 unfold laws_FnLattices.f at h
 have H := h
 clear h
 replace H := zi H
 obtain ⟨t782, A2, H⟩ := H
 try dsimp only at H
 by_cases c3 : t782 = true
 ·subst c3
  rw [if_pos rfl] at H
  obtain rfl := Option.some.inj H
  go_enter Try.func4, Try.ntmps4
  go_wp2_with (first | ((with_reducible refine zf 11 rfl ?_); refine g1 (some 60) Try.func11 #[.slice A0 l0.length c0] ?_; (with_reducible refine (laws_big.calls _ _ l0 true _ ?side1 ?side2 A2.out).mono ?_); (case side1 => repeat (first | exact HR0.out | (with_reducible refine Kd.C_alloc ?_ _) | (with_reducible refine Kd.C_drewN ?_ _) | (with_reducible refine Kd.C_drew ?_))); (case side2 => exact HC0.out); rintro e w' ⟨rfl, ⟨nd, rfl⟩⟩; refine ⟨_, rfl, ?_⟩))
  go_ret
  exact ⟨er, bl⟩
 ·replace c3 := Bool.eq_false_iff.mpr c3
  subst c3
  have H1 : ((spec_DrawLatticeOf.f k l0).bind fun bt783 => ((impl_LatticeOf.f k bt783.1 bt783.2.1 bt783.2.2.1 bt783.2.2.2.1 bt783.2.2.2.2).bind fun bt788 => ((spec_LatticeOf.f k bt783.1 bt783.2.1 bt783.2.2.1 bt783.2.2.2.1 bt783.2.2.2.2).bind fun bt793 => (if bt788.2.2.2 = bt793.2.2.2 then (laws_FnLattices.j0 k l0 bt783.1 bt783.2.1 bt783.2.2.1 bt783.2.2.2.1 bt783.2.2.2.2 bt788.2.2.2 (!(bt788.1 == bt793.1) || (!(bt788.2.1 == bt793.2.1) || (!(bt788.2.2.1 == bt793.2.2.1)))) bt788.1 bt788.2.1 bt788.2.2.1) else (laws_FnLattices.j0 k l0 bt783.1 bt783.2.1 bt783.2.2.1 bt783.2.2.2.1 bt783.2.2.2.2 bt788.2.2.2 true bt788.1 bt788.2.1 bt788.2.2.1))))) = some r := by rw [if_neg (show ¬ (false = true) by decide)] at H; exact H
  clear H
  have H := H1
  clear H1
  replace H := zi H
  obtain ⟨⟨t783, t784, t785, t786, t787⟩, A4, H⟩ := H
  try dsimp only at H
  replace H := zi H
  obtain ⟨⟨t788, t789, t790, t791⟩, A5, H⟩ := H
  try dsimp only at H
  replace H := zi H
  obtain ⟨⟨t793, t794, t795, t796⟩, A6, H⟩ := H
  try dsimp only at H
  have HC7 := Aside0.mk H
  clear H
  go_enter Try.func4, Try.ntmps4
  go_upto_region 6 with (first | ((with_reducible refine zf 11 rfl ?_); refine g1 (some 60) Try.func11 #[.slice A0 l0.length c0] ?_; (with_reducible refine (laws_big.calls _ _ l0 false _ ?side1 ?side2 A2.out).mono ?_); (case side1 => repeat (first | exact HR0.out | (with_reducible refine Kd.C_alloc ?_ _) | (with_reducible refine Kd.C_drewN ?_ _) | (with_reducible refine Kd.C_drew ?_))); (case side2 => exact HC0.out); rintro e w' ⟨rfl, ⟨nd, rfl⟩⟩; refine ⟨_, rfl, ?_⟩) | ((with_reducible refine zf 12 rfl ?_); refine g1 (some 63) Try.func12 #[.slice A0 l0.length c0] ?_; (with_reducible refine (spec_DrawLatticeOf.calls k _ _ l0 t783 t784 t785 t786 t787 _ ?side1 ?side2 A4.out).mono ?_); (case side1 => repeat (first | exact HR0.out | (with_reducible refine Kd.C_alloc ?_ _) | (with_reducible refine Kd.C_drewN ?_ _) | (with_reducible refine Kd.C_drew ?_))); (case side2 => exact HC0.out); rintro e w8 ⟨rfl, hb⟩; refine ⟨_, rfl, ?_⟩; replace HB := bs hb; (try clear hb)) | ((with_reducible refine zf 13 rfl ?_); refine g1 (some 75) Try.func13 #[.int .i64 t783, .int .i64 t784, .int .i64 t785, .int .i64 t786, .int .i64 t787] ?_; (with_reducible refine (impl_LatticeOf.calls k t783 t784 t785 t786 t787 t788 t789 t790 t791 _ A5.out).mono ?_); rintro e w9 ⟨rfl, hb⟩; refine ⟨_, rfl, ?_⟩; replace HB := bs hb; (try clear hb)) | ((with_reducible refine zg 8 rfl ?_); refine z3 8 27 0 0 0 ?_; intro gb792 hg w10 BK792 hb; have GW792 := sg hg; replace HB := bs hb; clear hb hg; obtain ⟨hcz11_0, hcz11_1, hcz11_2, hfz11_0, hfz11_1, hfz11_2⟩ := cq3 BK792) | ((with_reducible refine zf 14 rfl ?_); refine g1 (some 84) Try.func14 #[.int .i64 t783, .int .i64 t784, .int .i64 t785, .int .i64 t786, .int .i64 t787] ?_; (with_reducible refine (spec_LatticeOf.calls k t783 t784 t785 t786 t787 t793 t794 t795 t796 _ A6.out).mono ?_); rintro e w12 ⟨rfl, hb⟩; refine ⟨_, rfl, ?_⟩; replace BK792 := Aside0.mk (blk_below (g := gb792) (o := .cells #[.int .i64 t788, .int .i64 t789, .int .i64 t790] 27 (0, 0)) (bp) hb); replace HB := bs hb; (try clear hb)) | ((with_reducible refine zg 10 rfl ?_); refine z3 10 27 0 0 0 ?_; intro gb797 hg w13 BK797 hb; have GW797 := sg hg; have NB792_797 := nl hg BK792; replace BK792 := bb BK792 hb; replace HB := bs hb; clear hb hg; obtain ⟨hnb14, hnc14⟩ := zm NB792_797; obtain ⟨hcz15_0, hcz15_1, hcz15_2, hfz15_0, hfz15_1, hfz15_2⟩ := cq3 BK797))
  (try simp only [Act.put, zq, zr, zt])
  go_cut [94] (fun v94 wc => ∃ (kq : Nat) (x94_6 : Bool), v94 = .bool x94_6 ∧ Aside0 (laws_FnLattices.j0 kq l0 t783 t784 t785 t786 t787 t791 x94_6 t788 t789 t790 = some r) ∧ Aside0 (kq ≤ k) ∧ Aside0 (wc.heap[gb792]? = some (.cells #[.int .i64 t788, .int .i64 t789, .int .i64 t790] 27 (0, 0))) ∧ Aside0 (wc.heap[gb797]? = some (.cells #[.int .i64 t793, .int .i64 t794, .int .i64 t795] 27 (0, 0))) ∧ Aside0 (Below w.heap.size w wc))
  case first =>
   as_aux_lemma =>
   have H := HC7.out
   clear HC7
   replace H := ii H
   rcases H with ⟨c16, H⟩ | ⟨c16, H⟩
   ·obtain ⟨c16b0, c16b1⟩ := zz c16
    clear c16
    (first | rw [c16b0] | (simp only [i64_w, i32_w]; rw [c16b0]) | skip)
    have H' := Aside0.mk H
    clear H
    obtain ⟨hnb17, hnc17⟩ := zn NB792_797
    obtain ⟨hcz18_0, hcz18_1, hcz18_2, hfz18_0, hfz18_1, hfz18_2⟩ := cq3 BK792
    obtain ⟨hcz19_0, hcz19_1, hcz19_2, hfz19_0, hfz19_1, hfz19_2⟩ := cq3 BK797
    go_wp2
    go_meet
    case rel => go_light; exact ⟨_, ((!(t788 == t793) || (!(t789 == t794) || (!(t790 == t795))))), (by first | rfl | (simp; done) | (simp [*]; done)), H', ⟨by first | omega | exact Nat.le_refl _⟩, ⟨bp⟩, ⟨bp⟩, ⟨bl⟩⟩
   ·obtain ⟨c16b0, c16b1⟩ := zy c16
    (first | rw [c16b0] | (simp only [i64_w, i32_w]; rw [c16b0]) | skip)
    have H' := Aside0.mk H
    clear H
    go_wp2
    go_meet
    case rel => go_light; exact ⟨_, (true), (by first | rfl | (simp; done) | (simp [*]; done)), H', ⟨by first | omega | exact Nat.le_refl _⟩, ⟨bp⟩, ⟨bp⟩, ⟨bl⟩⟩
  case rest =>
   clear hcz11_0 hcz11_1 hcz11_2 hfz11_0 hfz11_1 hfz11_2 hnb14 hnc14 hcz15_0 hcz15_1 hcz15_2 hfz15_0 hfz15_1 hfz15_2
   clear HC7
   obtain ⟨kq, x94_6, rfl, HA, HJ6, BK792, BK797, HB⟩ := hcut
   cases kq with
   | zero => exact absurd HA.out (by simp [laws_FnLattices.j0])
   | succ kj6 =>
    have H := HA.out
    clear HA
    rw [laws_FnLattices.j0] at H
    by_cases c20 : x94_6 = true
    ·subst c20
     rw [if_pos rfl] at H
     exact absurd ((Option.some.inj H).trans hr.out) (by simp)
    ·replace c20 := Bool.eq_false_iff.mpr c20
     subst c20
     have H1 : (if t791 = 0 then ((impl_LatticeOf.f kj6 t783 t785 t784 t787 t786).bind fun bt798 => ((impl_HoldsVector.f kj6 t783 t788 t789 t790 t784 t786).bind fun bt803 => ((impl_HoldsVector.f kj6 t783 t788 t789 t790 t785 t787).bind fun bt805 => ((impl_IndexOf.f kj6 t783 t788 t789 t790).bind fun bt807 => ((impl_ValuationOf.f kj6 t783 (wrap64 ((wrap64 (t784 * t787)) - (wrap64 (t785 * t786)))) 1).bind fun bt809 => (if bt798.2.2.2 = 0 then (if bt803.2 = 0 then (if bt805.2 = 0 then (if bt807.2 = 0 then (if bt809.2 = 0 then (if (!(bt798.1 == t788) || (!(bt798.2.1 == t789) || (!(bt798.2.2.1 == t790)))) = true then (some false) else (if bt803.1 = true then (if bt805.1 = true then (if bt807.1 = bt809.1 then ((impl_IsLattice.f kj6 t783 t788 t789 t790).bind fun t811 => (if t811 = true then (laws_FnLattices.j1 kj6 l0) else (some false))) else (some false)) else (some false)) else (some false))) else (some false)) else (some false)) else (some false)) else (some false)) else (some false))))))) else (laws_FnLattices.j1 kj6 l0)) = some r := by rw [if_neg (show ¬ (false = true) by decide)] at H; exact H
     clear H
     have H := H1
     clear H1
     have HC21 := Aside0.mk H
     clear H
     go_upto_if 96 with (fail)
     go_cut [] (fun wc => ∃ (kq : Nat), Aside0 (laws_FnLattices.j1 kq l0 = some r) ∧ Aside0 (kq ≤ kj6) ∧ Aside0 (wc.heap[gb792]? = some (.cells #[.int .i64 t788, .int .i64 t789, .int .i64 t790] 27 (0, 0))) ∧ Aside0 (wc.heap[gb797]? = some (.cells #[.int .i64 t793, .int .i64 t794, .int .i64 t795] 27 (0, 0))) ∧ Aside0 (Below w.heap.size w wc))
     case first =>
      as_aux_lemma =>
      have H := HC21.out
      clear HC21
      replace H := ii H
      rcases H with ⟨c22, H⟩ | ⟨c22, H⟩
      ·obtain ⟨c22b0, c22b1⟩ := zz c22
       clear c22
       (first | rw [c22b0] | (simp only [i64_w, i32_w]; rw [c22b0]) | skip)
       replace H := zi H
       obtain ⟨⟨t798, t799, t800, t801⟩, A23, H⟩ := H
       try dsimp only at H
       replace H := zi H
       obtain ⟨⟨t803, t804⟩, A24, H⟩ := H
       try dsimp only at H
       replace H := zi H
       obtain ⟨⟨t805, t806⟩, A25, H⟩ := H
       try dsimp only at H
       replace H := zi H
       obtain ⟨⟨t807, t808⟩, A26, H⟩ := H
       try dsimp only at H
       replace H := zi H
       obtain ⟨⟨t809, t810⟩, A27, H⟩ := H
       try dsimp only at H
       replace H := ii H
       rcases H with ⟨c28, H⟩ | ⟨c28, H⟩
       ·obtain ⟨c28b0, c28b1⟩ := zz c28
        clear c28
        replace H := ii H
        rcases H with ⟨c29, H⟩ | ⟨c29, H⟩
        ·obtain ⟨c29b0, c29b1⟩ := zz c29
         clear c29
         replace H := ii H
         rcases H with ⟨c30, H⟩ | ⟨c30, H⟩
         ·obtain ⟨c30b0, c30b1⟩ := zz c30
          clear c30
          replace H := ii H
          rcases H with ⟨c31, H⟩ | ⟨c31, H⟩
          ·obtain ⟨c31b0, c31b1⟩ := zz c31
           clear c31
           replace H := ii H
           rcases H with ⟨c32, H⟩ | ⟨c32, H⟩
           ·obtain ⟨c32b0, c32b1⟩ := zz c32
            clear c32
            replace H := ii H
            rcases H with ⟨c33, H⟩ | ⟨c33, H⟩
            ·have c33b0 : (!(t798 == t788) || (!(t799 == t789) || (!(t800 == t790)))) = true := c33
             clear c33
             exact absurd ((Option.some.inj H).trans hr.out) (by simp)
            ·have c33b0 : (!(t798 == t788) || (!(t799 == t789) || (!(t800 == t790)))) = false := by simpa using c33
             clear c33
             by_cases c34 : t803 = true
             ·subst c34
              rw [if_pos rfl] at H
              by_cases c35 : t805 = true
              ·subst c35
               rw [if_pos rfl] at H
               replace H := ii H
               rcases H with ⟨c36, H⟩ | ⟨c36, H⟩
               ·obtain ⟨c36b0, c36b1⟩ := zz c36
                clear c36
                replace H := zi H
                obtain ⟨t811, A37, H⟩ := H
                try dsimp only at H
                by_cases c38 : t811 = true
                ·subst c38
                 rw [if_pos rfl] at H
                 have H' := Aside0.mk H
                 clear H
                 go_wp2_with (first | ((with_reducible refine zf 13 rfl ?_); refine g1 (some 103) Try.func13 #[.int .i64 t783, .int .i64 t785, .int .i64 t784, .int .i64 t787, .int .i64 t786] ?_; (with_reducible refine (impl_LatticeOf.calls kj6 t783 t785 t784 t787 t786 t798 t799 t800 t801 _ A23.out).mono ?_); rintro e w39 ⟨rfl, hb⟩; refine ⟨_, rfl, ?_⟩; replace BK792 := bb BK792 hb; replace BK797 := bb BK797 hb; replace HB := bs hb; (try clear hb)) | ((with_reducible refine zg 12 rfl ?_); refine z3 12 27 0 0 0 ?_; intro gb802 hg w40 BK802 hb; have GW802 := sg hg; have NB792_802 := nl hg BK792; have NB797_802 := nl hg BK797; replace BK792 := bb BK792 hb; replace BK797 := bb BK797 hb; replace HB := bs hb; clear hb hg; obtain ⟨hnb41, hnc41⟩ := zm NB792_802; obtain ⟨hcz43_0, hcz43_1, hcz43_2, hfz43_0, hfz43_1, hfz43_2⟩ := cq3 BK802; obtain ⟨hcz45_0, hcz45_1, hcz45_2, hfz45_0, hfz45_1, hfz45_2⟩ := cq3 BK792) | ((with_reducible refine zf 15 rfl ?_); refine g1 (some 111) Try.func15 #[.int .i64 t783, .agg #[.int .i64 t788, .int .i64 t789, .int .i64 t790], .int .i64 t784, .int .i64 t786] ?_; (with_reducible refine (impl_HoldsVector.calls kj6 t783 t788 t789 t790 t784 t786 true t804 _ A24.out).mono ?_); rintro e w46 ⟨rfl, hb⟩; refine ⟨_, rfl, ?_⟩; replace BK792 := Aside0.mk (blk_below (g := gb792) (o := .cells #[.int .i64 t788, .int .i64 t789, .int .i64 t790] 27 (0, 0)) (bp) hb); replace BK797 := Aside0.mk (blk_below (g := gb797) (o := .cells #[.int .i64 t793, .int .i64 t794, .int .i64 t795] 27 (0, 0)) (bp) hb); replace BK802 := Aside0.mk (blk_below (g := gb802) (o := .cells #[.int .i64 t798, .int .i64 t799, .int .i64 t800] 27 (0, 0)) (bp) hb); replace HB := bs hb; (try clear hb); obtain ⟨hcz47_0, hcz47_1, hcz47_2, hfz47_0, hfz47_1, hfz47_2⟩ := cq3 BK792) | ((with_reducible refine zf 15 rfl ?_); refine g1 (some 119) Try.func15 #[.int .i64 t783, .agg #[.int .i64 t788, .int .i64 t789, .int .i64 t790], .int .i64 t785, .int .i64 t787] ?_; (with_reducible refine (impl_HoldsVector.calls kj6 t783 t788 t789 t790 t785 t787 true t806 _ A25.out).mono ?_); rintro e w48 ⟨rfl, hb⟩; refine ⟨_, rfl, ?_⟩; replace BK792 := bb BK792 hb; replace BK797 := bb BK797 hb; replace BK802 := bb BK802 hb; replace HB := bs hb; (try clear hb); obtain ⟨hcz49_0, hcz49_1, hcz49_2, hfz49_0, hfz49_1, hfz49_2⟩ := cq3 BK792) | ((with_reducible refine zf 16 rfl ?_); refine g1 (some 125) Try.func16 #[.int .i64 t783, .agg #[.int .i64 t788, .int .i64 t789, .int .i64 t790]] ?_; (with_reducible refine (impl_IndexOf.calls kj6 t783 t788 t789 t790 t807 t808 _ A26.out).mono ?_); rintro e w50 ⟨rfl, hb⟩; refine ⟨_, rfl, ?_⟩; replace BK792 := bb BK792 hb; replace BK797 := bb BK797 hb; replace BK802 := bb BK802 hb; replace HB := bs hb; (try clear hb)) | ((with_reducible refine zf 17 rfl ?_); refine g1 (some 137) Try.func17 #[.int .i64 t783, .int .i64 (wrap64 ((wrap64 (t784 * t787)) - (wrap64 (t785 * t786)))), .int .i64 1] ?_; (with_reducible refine (impl_ValuationOf.calls kj6 t783 (wrap64 ((wrap64 (t784 * t787)) - (wrap64 (t785 * t786)))) 1 t809 t810 _ A27.out).mono ?_); rintro e w51 ⟨rfl, hb⟩; refine ⟨_, rfl, ?_⟩; replace BK792 := bb BK792 hb; replace BK797 := bb BK797 hb; replace BK802 := bb BK802 hb; replace HB := bs hb; (try clear hb); obtain ⟨hcz52_0, hcz52_1, hcz52_2, hfz52_0, hfz52_1, hfz52_2⟩ := cq3 BK802; obtain ⟨hcz53_0, hcz53_1, hcz53_2, hfz53_0, hfz53_1, hfz53_2⟩ := cq3 BK792) | (go_at_call 18; (with_reducible refine (impl_IsLattice.calls kj6 t783 t788 t789 t790 true _ A37.out).mono ?_); rintro e w54 ⟨rfl, hb⟩; replace BK792 := bb BK792 hb; replace BK797 := bb BK797 hb; replace BK802 := bb BK802 hb; replace HB := bs hb; (try clear hb)))
                 go_meet
                 case rel => go_light; exact ⟨_, H', ⟨by have := HJ6.out; first | omega | exact Nat.le_refl _⟩, ⟨be BK792⟩, ⟨be BK797⟩, ⟨bl⟩⟩
                ·replace c38 := Bool.eq_false_iff.mpr c38
                 subst c38
                 have H1 : (some false) = some r := by rw [if_neg (show ¬ (false = true) by decide)] at H; exact H
                 clear H
                 have H := H1
                 clear H1
                 exact absurd ((Option.some.inj H).trans hr.out) (by simp)
               ·obtain ⟨c36b0, c36b1⟩ := zy c36
                exact absurd ((Option.some.inj H).trans hr.out) (by simp)
              ·replace c35 := Bool.eq_false_iff.mpr c35
               subst c35
               have H1 : (some false) = some r := by rw [if_neg (show ¬ (false = true) by decide)] at H; exact H
               clear H
               have H := H1
               clear H1
               exact absurd ((Option.some.inj H).trans hr.out) (by simp)
             ·replace c34 := Bool.eq_false_iff.mpr c34
              subst c34
              have H1 : (some false) = some r := by rw [if_neg (show ¬ (false = true) by decide)] at H; exact H
              clear H
              have H := H1
              clear H1
              exact absurd ((Option.some.inj H).trans hr.out) (by simp)
           ·obtain ⟨c32b0, c32b1⟩ := zy c32
            exact absurd ((Option.some.inj H).trans hr.out) (by simp)
          ·obtain ⟨c31b0, c31b1⟩ := zy c31
           exact absurd ((Option.some.inj H).trans hr.out) (by simp)
         ·obtain ⟨c30b0, c30b1⟩ := zy c30
          exact absurd ((Option.some.inj H).trans hr.out) (by simp)
        ·obtain ⟨c29b0, c29b1⟩ := zy c29
         exact absurd ((Option.some.inj H).trans hr.out) (by simp)
       ·obtain ⟨c28b0, c28b1⟩ := zy c28
        exact absurd ((Option.some.inj H).trans hr.out) (by simp)
      ·obtain ⟨c22b0, c22b1⟩ := zy c22
       (first | rw [c22b0] | (simp only [i64_w, i32_w]; rw [c22b0]) | skip)
       have H' := Aside0.mk H
       clear H
       go_wp2
       go_meet
       case rel => go_light; exact ⟨_, H', ⟨by have := HJ6.out; first | omega | exact Nat.le_refl _⟩, ⟨be BK792⟩, ⟨be BK797⟩, ⟨bl⟩⟩
     case rest =>
      obtain ⟨kq, HA, HJ20, BK792, BK797, HB⟩ := hcut
      refine ‹∀ (a : Act) (w : World), Code.wp _ _ _ a w → _› _ _ ?_
      exact laws_FnLattices.part2 HA HJ20 BK792 BK797 HB GW792 GW797 NB792_797 HR0 HC0 hr
/-- THE ONE PURE STATEMENT of laws_FnLattices: yours. -/
theorem laws_FnLattices.walk (P : laws_FnLattices.Pure) (a0 : Option Addr) (len0 cap0 : Nat) (z0 : List Int) (w : World) (w0 : (a0 = none ∧ len0 = 0 ∧ cap0 = 0 ∧ z0 = []) ∨ ∃ x, a0 = some x ∧ len0 ≤ cap0 ∧ cap0 ≤ maxLen ∧ z0.length = cap0 ∧ (∀ i, i < z0.length → w.cell? (x.add i) = some (.int .u8 (z0.getD i 0))) ∧ ∀ n ∈ z0, (Lit.int .u8 n).wf = true) (y0 : len0 * 1 ≤ 140737488351232) :
  Calls Try.prog 4 #[.slice a0 len0 cap0] w fun e w' => e = .returned (.bool true) ∧ Below w.heap.size w w' := by
 obtain ⟨l0, rfl, hr0, hm0, hw0, hc0⟩ := ReadsInt.ofRowC w0
 obtain ⟨k, h⟩ := P l0 hm0 y0 hw0
 refine (laws_FnLattices.calls k _ _ l0 true w ⟨rfl⟩ (Kd.C_of_reads (d := (0 : Int)) (h1 := fun _ => rfl) hr0) hc0 h).mono ?_
 rintro e w' ⟨rfl, hd⟩
 exact ⟨rfl, hd⟩
end Go.Proofs.Ytkfodnlogflcpaa.PFnLattices

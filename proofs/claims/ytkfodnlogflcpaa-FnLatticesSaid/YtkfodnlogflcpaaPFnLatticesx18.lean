-- Printed by the kit's print and repaired by a program of this session.
import Derived.Test.YtkfodnlogflcpaaPFnLatticesx0
import Derived.Test.YtkfodnlogflcpaaPFnLatticesx3
import Derived.Test.YtkfodnlogflcpaaPFnLatticesx9
import Derived.Test.YtkfodnlogflcpaaPFnLatticesx10
import Derived.Test.YtkfodnlogflcpaaPFnLatticesx11
import Derived.Test.YtkfodnlogflcpaaPFnLatticesx17
namespace Go.Proofs.Ytkfodnlogflcpaa.PFnLattices
open Go.RowKit Go.Proofs.YtkfodnlogflcpaaW.PrintWords Go.Proofs.YtkfodnlogflcpaaW.PrintLast Go.Proofs.YtkfodnlogflcpaaW.PrintMore
attribute [local go_sem] max2_int min2_int max_two min_two max_three min_three max_four min_four
set_option linter.unusedVariables false
set_option linter.unusedSimpArgs false

/-! ### spec_l03Two: function 68 -/
def spec_l03Two.f (k : Nat) (l0 : List Int) : Option (Int × Int × Int × Int × Int × Int × Int) := (spec_l01From.f k l0).bind fun bt655 => ((spec_l03Spoil.f k bt655.1 bt655.2.1 bt655.2.2).bind fun bt659 => ((spec_l03Is.f k bt659.1 bt659.2.1 bt659.2.2.1 bt659.2.2.2.1).bind fun t666 => (if t666 = true then ((spec_l03Draw.f k bt655.1 bt659.2.2.2.2.1 bt659.2.2.2.2.2 bt659.1).bind fun bt667 => ((spec_l01Next.f bt655.1 bt667.2.2.2.1 bt667.2.2.2.2 2).bind fun bt673 => (if bt673.1 = 0 then ((spec_l01Next.f bt655.1 bt673.2.1 bt673.2.2 2).bind fun bt676 => ((spec_LatticesInside.f k bt659.1 bt659.2.1 bt659.2.2.1 bt659.2.2.2.1 (wrap64 (1 + bt676.1))).bind fun bt679 => (if bt679.2 = 0 then ((spec_l01Next.f bt655.1 bt676.2.1 bt676.2.2 (bt679.1.length : Int)).bind fun bt683 => (if 0 ≤ bt683.1 then (if bt683.1 < (bt679.1.length : Int) then (some (bt659.1, bt659.2.1, bt659.2.2.1, bt659.2.2.2.1, (rd_T27 bt679.1 bt683.1).f0, (rd_T27 bt679.1 bt683.1).f1, (rd_T27 bt679.1 bt683.1).f2)) else (none)) else (none))) else (some (bt659.1, bt659.2.1, bt659.2.2.1, bt659.2.2.2.1, bt667.1, bt667.2.1, bt667.2.2.1))))) else (some (bt659.1, bt659.2.1, bt659.2.2.1, bt659.2.2.2.1, bt667.1, bt667.2.1, bt667.2.2.1))))) else (some (bt659.1, bt659.2.1, bt659.2.2.1, bt659.2.2.2.1, bt659.2.1, bt659.2.2.1, bt659.2.2.2.1)))))
def spec_l03Two.T7 : Bool × List (List Nat × List Nat) := (true, [([], []), ([], []), ([], []), ([2], [2]), ([3], [3]), ([0, 1, 4, 3], [0, 1, 4]), ([5], [5]), ([6], [6]), ([6], [6]), ([7, 5, 0, 1, 2, 3, 4, 5, 6, 7], [7]), ([8, 9, 0, 1, 2, 3, 4, 5, 6, 7, 8, 9], [8])])
def spec_l03Two.B7 : List Nat := [0, 0, 0, 4, 12, 31, 63, 127, 127, 255, 1023]
theorem spec_l03Two.tab7 : rtab .any (opsOf Try.f68 7) = spec_l03Two.T7 := by kernel_rfl
theorem spec_l03Two.bits7 : waitsOk spec_l03Two.T7.2 spec_l03Two.B7 = true := by kernel_rfl
set_option maxHeartbeats 8000000 in
set_option maxRecDepth 100000 in
theorem spec_l03Two.calls (k : Nat) (A0 : Option Addr) (c0 : Nat) (l0 : List Int) (r1 : Int) (r2 : Int) (r3 : Int) (r4 : Int) (r5 : Int) (r6 : Int) (r7 : Int) (w : World) (hr0 : Kd.C (Kd.int .u8) w A0 l0.length l0) (hc0 : l0.length ≤ c0) (h : spec_l03Two.f k l0 = some (r1, r2, r3, r4, r5, r6, r7)) :
  Calls Try.prog 68 #[.slice A0 l0.length c0] w fun e w' => e = .returned (.tuple #[.int .i64 r1, .agg #[.int .i64 r2, .int .i64 r3, .int .i64 r4], .agg #[.int .i64 r5, .int .i64 r6, .int .i64 r7]]) ∧ Below w.heap.size w w' := by
 have hu27 := Try.underlying27
 have HR0 := Aside0.mk hr0
 have HC0 := Aside0.mk hc0
 clear hr0 hc0
 have HB := Aside0.mk (Below.refl w.heap.size w)
 unfold spec_l03Two.f at h
 have H := h
 clear h
 replace H := zi H
 obtain ⟨⟨t655, t656, t657⟩, A2, H⟩ := H
 try dsimp only at H
 replace H := zi H
 obtain ⟨⟨t659, t660, t661, t662, t663, t664⟩, A3, H⟩ := H
 try dsimp only at H
 replace H := zi H
 obtain ⟨t666, A4, H⟩ := H
 try dsimp only at H
 by_cases c5 : t666 = true
 ·subst c5
  rw [if_pos rfl] at H
  replace H := zi H
  obtain ⟨⟨t667, t668, t669, t670, t671⟩, A6, H⟩ := H
  try dsimp only at H
  replace H := zi H
  obtain ⟨⟨t673, t674, t675⟩, A7, H⟩ := H
  try dsimp only at H
  replace H := ii H
  rcases H with ⟨c8, H⟩ | ⟨c8, H⟩
  ·obtain ⟨c8b0, c8b1⟩ := zz c8
   clear c8
   replace H := zi H
   obtain ⟨⟨t676, t677, t678⟩, A9, H⟩ := H
   try dsimp only at H
   replace H := zi H
   obtain ⟨⟨t679, t682⟩, A10, H⟩ := H
   try dsimp only at H
   replace H := ii H
   rcases H with ⟨c11, H⟩ | ⟨c11, H⟩
   ·obtain ⟨c11b0, c11b1⟩ := zz c11
    clear c11
    replace H := zi H
    obtain ⟨⟨t683, t684, t685⟩, A12, H⟩ := H
    try dsimp only at H
    replace H := ii H
    rcases H with ⟨c13, H⟩ | ⟨c13, H⟩
    ·have c13b0 := decide_eq_true c13
     clear c13
     replace H := ii H
     rcases H with ⟨c14, H⟩ | ⟨c14, H⟩
     ·have c14b0 := decide_eq_true c14
      clear c14
      simp only [Option.some.injEq, Prod.mk.injEq] at H
      obtain ⟨rfl, rfl, rfl, rfl, rfl, rfl, rfl⟩ := H
      go_enter Try.func68, Try.ntmps68
      try go_wp2_with (first | ((with_reducible refine zg 3 rfl ?_); refine z3 3 27 0 0 0 ?_; intro gb653 hg w15 BK653 hb; have GW653 := sg hg; replace HB := bs hb; clear hb hg) | ((with_reducible refine zg 4 rfl ?_); refine z3 4 27 0 0 0 ?_; intro gb654 hg w16 BK654 hb; have GW654 := sg hg; have NB653_654 := nl hg BK653; replace BK653 := bb BK653 hb; replace HB := bs hb; clear hb hg) | ((with_reducible refine zf 45 rfl ?_); refine g1 (some 12) Try.func45 #[.slice A0 l0.length c0] ?_; (with_reducible refine (spec_l01From.calls k _ _ l0 t655 t656 t657 w _ ?side1 ?side2 ?side3 A2.out).mono ?_); (case side1 => exact bl); (case side2 => exact HR0.out); (case side3 => exact HC0.out); rintro e w17 ⟨g658, rfl, hi, hb, hb2⟩; refine ⟨_, rfl, ?_⟩; have HI658 := Aside0.mk (hi); have NB658_653 := Aside0.mk (IsS101.ne_blk hi (blk_below (g := gb653) (o := .cells #[.int .i64 0, .int .i64 0, .int .i64 0] 27 (0, 0)) (be BK653) hb2) (by decide)); have NB653_658 := Aside0.mk (Ne.symm (IsS101.ne_blk hi (blk_below (g := gb653) (o := .cells #[.int .i64 0, .int .i64 0, .int .i64 0] 27 (0, 0)) (be BK653) hb2) (by decide))); have NB658_654 := Aside0.mk (IsS101.ne_blk hi (blk_below (g := gb654) (o := .cells #[.int .i64 0, .int .i64 0, .int .i64 0] 27 (0, 0)) (be BK654) hb2) (by decide)); have NB654_658 := Aside0.mk (Ne.symm (IsS101.ne_blk hi (blk_below (g := gb654) (o := .cells #[.int .i64 0, .int .i64 0, .int .i64 0] 27 (0, 0)) (be BK654) hb2) (by decide))); replace BK653 := Aside0.mk (blk_below (g := gb653) (o := .cells #[.int .i64 0, .int .i64 0, .int .i64 0] 27 (0, 0)) (be BK653) hb2); replace BK654 := Aside0.mk (blk_below (g := gb654) (o := .cells #[.int .i64 0, .int .i64 0, .int .i64 0] 27 (0, 0)) (be BK654) hb2); replace HB := Aside0.mk (hb); (try clear hb); (try clear hb2); (try clear hk); (try clear hi)) | ((with_reducible refine zf 57 rfl ?_); refine g1 (some 15) Try.func57 #[.pointer (some ⟨g658, 0, none⟩)] ?_; (with_reducible refine (spec_l03Spoil.calls k g658 t655 t656 t657 t659 t660 t661 t662 t663 t664 w _ ?side1 ?side2 A3.out).mono ?_); (case side1 => exact is101); (case side2 => exact ib101); rintro e w18 ⟨rfl, hi, hb, hk⟩; refine ⟨_, rfl, ?_⟩; replace BK653 := kb hk BK653 NB653_658; replace BK654 := kb hk BK654 NB654_658; replace HI658 := Aside0.mk (hi); replace HB := Aside0.mk (hb); (try clear hb hk)) | ((with_reducible refine zg 7 rfl ?_); refine z3 7 27 0 0 0 ?_; intro gb665 hg w19 BK665 hb; have GW665 := Aside0.mk ((by rw [hg]; exact (below_size (ib101)) : w.heap.size ≤ gb665)); have GE665 := Aside0.mk ((by rw [hg]; exact (below_size (ib101)) : w.heap.size ≤ gb665)); have NB653_665 := nl hg BK653; have NB654_665 := nl hg BK654; have NB658_665 := Aside0.mk ((by rw [hg]; exact Nat.ne_of_lt (IsS101.lt (show IsS101 w _ g658 t655 t663 t664 from by exact is101)) : g658 ≠ gb665)); have NB665_658 := Aside0.mk ((by rw [hg]; exact Nat.ne_of_gt (IsS101.lt (show IsS101 w _ g658 t655 t663 t664 from by exact is101)) : gb665 ≠ g658)); replace BK653 := bb BK653 hb; replace BK654 := bb BK654 hb; replace HB := Aside0.mk (below_step (ib101) hb); replace HI658 := Aside0.mk (IsS101.below (is101) hb); clear hb hg; obtain ⟨hnb20, hnc20⟩ := zm NB653_665; obtain ⟨hnb21, hnc21⟩ := zm NB654_665; have hnb22 := NB665_658.out; have hnc22 := NB658_665.out; obtain ⟨hcz23_0, hcz23_1, hcz23_2, hfz23_0, hfz23_1, hfz23_2⟩ := cq3 BK665) | ((with_reducible refine zf 60 rfl ?_); refine g1 (some 20) Try.func60 #[.int .i64 t659, .agg #[.int .i64 t660, .int .i64 t661, .int .i64 t662]] ?_; (with_reducible refine (spec_l03Is.calls k t659 t660 t661 t662 true _ A4.out).mono ?_); rintro e w24 ⟨rfl, hb⟩; refine ⟨_, rfl, ?_⟩; replace BK653 := Aside0.mk (blk_below (g := gb653) (o := .cells #[.int .i64 0, .int .i64 0, .int .i64 0] 27 (0, 0)) (bp) hb); replace BK654 := Aside0.mk (blk_below (g := gb654) (o := .cells #[.int .i64 0, .int .i64 0, .int .i64 0] 27 (0, 0)) (bp) hb); replace BK665 := Aside0.mk (blk_below (g := gb665) (o := .cells #[.int .i64 t660, .int .i64 t661, .int .i64 t662] 27 (0, 0)) (bp) hb); replace HB := Aside0.mk (below_step (ib101) hb); replace HI658 := Aside0.mk (IsS101.below (show IsS101 w (((w19.setCell ⟨gb665, 0, none⟩ (.int .i64 t660)).setCell ⟨gb665, 1, none⟩ (.int .i64 t661)).setCell ⟨gb665, 2, none⟩ (.int .i64 t662)) g658 t655 t663 t664 from by exact is101) hb); (try clear hb)) | ((with_reducible refine zf 81 rfl ?_); refine g1 (some 27) Try.func81 #[.pointer (some ⟨g658, 0, none⟩), .int .i64 t659] ?_; (with_reducible refine (spec_l03Draw.calls k g658 t655 t663 t664 t659 t667 t668 t669 t670 t671 w _ ?side1 ?side2 A6.out).mono ?_); (case side1 => exact is101); (case side2 => exact ib101); rintro e w25 ⟨rfl, hi, hb, hk⟩; refine ⟨_, rfl, ?_⟩; replace BK653 := kb hk BK653 NB653_658; replace BK654 := kb hk BK654 NB654_658; replace BK665 := kb hk BK665 NB665_658; replace HI658 := Aside0.mk (hi); replace HB := Aside0.mk (hb); (try clear hb hk)) | ((with_reducible refine zg 8 rfl ?_); refine z3 8 27 0 0 0 ?_; intro gb672 hg w26 BK672 hb; have GW672 := Aside0.mk ((by rw [hg]; exact (below_size (ib101)) : w.heap.size ≤ gb672)); have GE672 := Aside0.mk ((by rw [hg]; exact (below_size (ib101)) : w.heap.size ≤ gb672)); have NB653_672 := nl hg BK653; have NB654_672 := nl hg BK654; have NB665_672 := nl hg BK665; have NB658_672 := Aside0.mk ((by rw [hg]; exact Nat.ne_of_lt (IsS101.lt (show IsS101 w _ g658 t655 t670 t671 from by exact is101)) : g658 ≠ gb672)); have NB672_658 := Aside0.mk ((by rw [hg]; exact Nat.ne_of_gt (IsS101.lt (show IsS101 w _ g658 t655 t670 t671 from by exact is101)) : gb672 ≠ g658)); replace BK653 := bb BK653 hb; replace BK654 := bb BK654 hb; replace BK665 := bb BK665 hb; replace HB := Aside0.mk (below_step (ib101) hb); replace HI658 := Aside0.mk (IsS101.below (is101) hb); clear hb hg; obtain ⟨hnb27, hnc27⟩ := zm NB653_672; obtain ⟨hnb28, hnc28⟩ := zm NB654_672; obtain ⟨hnb29, hnc29⟩ := zm NB665_672; have hnb30 := NB672_658.out; have hnc30 := NB658_672.out; obtain ⟨hcz31_0, hcz31_1, hcz31_2, hfz31_0, hfz31_1, hfz31_2⟩ := cq3 BK672) | ((with_reducible refine zf 47 rfl ?_); refine g1 (some 29) Try.func47 #[.pointer (some ⟨g658, 0, none⟩), .int .i64 2] ?_; (with_reducible refine (spec_l01Next.calls g658 t655 t670 t671 2 t673 t674 t675 w _ ?side1 ?side2 A7.out).mono ?_); (case side1 => exact is101); (case side2 => exact ib101); rintro e w32 ⟨rfl, hi, hb, hk⟩; refine ⟨_, rfl, ?_⟩; replace BK653 := Aside0.mk (KeepBut.blk hk (g' := gb653) (o := .cells #[.int .i64 0, .int .i64 0, .int .i64 0] 27 (0, 0)) (bp) NB653_658.out (by simp)); replace BK654 := Aside0.mk (KeepBut.blk hk (g' := gb654) (o := .cells #[.int .i64 0, .int .i64 0, .int .i64 0] 27 (0, 0)) (bp) NB654_658.out (by simp)); replace BK665 := Aside0.mk (KeepBut.blk hk (g' := gb665) (o := .cells #[.int .i64 t660, .int .i64 t661, .int .i64 t662] 27 (0, 0)) (bp) NB665_658.out (by simp)); replace BK672 := Aside0.mk (KeepBut.blk hk (g' := gb672) (o := .cells #[.int .i64 t667, .int .i64 t668, .int .i64 t669] 27 (0, 0)) (bp) NB672_658.out (by simp)); replace HI658 := Aside0.mk (hi); replace HB := Aside0.mk (hb); (try clear hb hk)))
      replace BK653 := Aside0.mk (blk_drew BK653.out)
      replace BK654 := Aside0.mk (blk_drew BK654.out)
      replace BK665 := Aside0.mk (blk_drew BK665.out)
      replace BK672 := Aside0.mk (blk_drew BK672.out)
      replace HI658 := Aside0.mk (IsS101.drew HI658.out)
      replace HB := Aside0.mk (below_drew1 HB.out)
      refine sw 11 (fun w' => w'.cell? ⟨gb665, 0, none⟩ = some (.int .i64 t660) ∧ w'.cell? ⟨gb665, 1, none⟩ = some (.int .i64 t661) ∧ w'.cell? ⟨gb665, 2, none⟩ = some (.int .i64 t662)) spec_l03Two.tab7 spec_l03Two.bits7 (e3 BK665) (fun hHeld HT_ HW_ => ?_)
      generalize w32.drew = w33 at BK653 BK654 BK665 BK672 HI658 HB hHeld ⊢
      refine pu 0 (some 32) (tA 11 1) HT_ ?_
      refine pu 2 (some 34) (tA 11 5) HT_ ?_
      refine tk3 1 (some 33) (tA 11 7) HT_ HW_ hHeld ?_
      refine o1 3 (some 35) (tA 11 15) HT_ (fun K hK => ?_)
      refine gs Try.func47 #[.pointer (some ⟨g658, 0, none⟩), .int .i64 2] ?_
      with_reducible refine (spec_l01Next.calls g658 t655 t674 t675 2 t676 t677 t678 w _ ?side1 ?side2 A9.out).mono ?_
      (case side1 => exact is101)
      (case side2 => exact ib101)
      rintro e w34 ⟨rfl, hi, hb, hk⟩
      refine ⟨_, rfl, ?_⟩
      replace BK653 := kb hk BK653 NB653_658
      replace BK654 := kb hk BK654 NB654_658
      replace BK665 := kb hk BK665 NB665_658
      replace BK672 := kb hk BK672 NB672_658
      replace HI658 := Aside0.mk (hi)
      replace HB := Aside0.mk (hb)
      (try clear hb)
      (try clear hb2)
      (try clear hk)
      (try clear hi)
      refine hK.out _ _ (e3 BK665) (fun hHeld => ?_)
      clear hK K
      refine nm (some 35) ?_
      refine pu 4 (some 36) (tA 11 31) HT_ ?_
      refine o1 5 (some 37) (tA 11 63) HT_ (fun K hK => ?_)
      refine gs Try.func5 #[.int .i64 t659, .agg #[.int .i64 t660, .int .i64 t661, .int .i64 t662], .int .i64 (wrap64 (1 + t676))] ?_
      with_reducible refine (spec_LatticesInside.calls k t659 t660 t661 t662 (wrap64 (1 + t676)) t679 t682 _ A10.out).mono ?_
      rintro e w35 ⟨v680, rfl, ho0, hb⟩
      refine ⟨_, rfl, ?_⟩
      have HO681 := Aside0.mk (Kd.R_lower (Kd.R_newB (Kd.R_newB (Kd.R_newB (Kd.R_newB ho0 (g := gb653) (o := .cells #[.int .i64 0, .int .i64 0, .int .i64 0] 27 (0, 0)) (be BK653)) (g := gb654) (o := .cells #[.int .i64 0, .int .i64 0, .int .i64 0] 27 (0, 0)) (be BK654)) (g := gb665) (o := .cells #[.int .i64 t660, .int .i64 t661, .int .i64 t662] 27 (0, 0)) (be BK665)) (g := gb672) (o := .cells #[.int .i64 t667, .int .i64 t668, .int .i64 t669] 27 (0, 0)) (be BK672)) (below_size (ib101)))
      replace BK653 := bb BK653 hb
      replace BK654 := bb BK654 hb
      replace BK665 := bb BK665 hb
      replace BK672 := bb BK672 hb
      replace HB := Aside0.mk (below_step (ib101) hb)
      replace HI658 := Aside0.mk (IsS101.below (is101) hb)
      (try clear hb)
      (try clear hb2)
      (try clear hk)
      (try clear hi)
      (try clear ho0)
      refine hK.out _ _ (e3 BK665) (fun hHeld => ?_)
      clear hK K
      refine nm (some 37) ?_
      refine pu 6 (some 31) (tA 11 127) HT_ ?_
      refine pu 7 (some 38) (tA 11 255) HT_ ?_
      refine pu 8 (some 39) (tA 11 511) HT_ ?_
      refine pu 9 (some 9) (tA 11 1023) HT_ ?_
      refine pu 10 (some 10) (tA 11 2047) HT_ ?_
      refine done_ (done_of HT_.out (by kernel_rfl)) ?_
      obtain ⟨Ao36, co36, eo36⟩ := Kd.R_slice HO681.out
      subst eo36
      try go_wp2_with (first | ((with_reducible refine zf 47 rfl ?_); refine g1 (some 46) Try.func47 #[.pointer (some ⟨g658, 0, none⟩), .int .i64 (t679.length : Int)] ?_; (with_reducible refine (spec_l01Next.calls g658 t655 t677 t678 (t679.length : Int) t683 t684 t685 w _ ?side1 ?side2 A12.out).mono ?_); (case side1 => exact is101); (case side2 => exact ib101); rintro e w37 ⟨rfl, hi, hb, hk⟩; refine ⟨_, rfl, ?_⟩; replace BK653 := kb hk BK653 NB653_658; replace BK654 := kb hk BK654 NB654_658; replace BK665 := kb hk BK665 NB665_658; replace BK672 := kb hk BK672 NB672_658; replace HO681 := Aside0.mk (Kd.R_mono (Kd.R_keep (IsS101.apart (show IsS101 w _ g658 t655 t677 t678 from by exact is101) (by (with_reducible repeat (first | apply Kd.R_alloc | apply Kd.R_drewN | apply Kd.R_drew)); exact HO681.out) (by decide)) hk (fun _ h => h.2)) (fun _ h => h.1)); replace HI658 := Aside0.mk (hi); replace HB := Aside0.mk (hb); (try clear hb hk); have p686 : 0 ≤ (t683 : Int) := of_decide_eq_true (by first | (with_reducible assumption) | assumption); have q686 : t683 < (t679.length : Int) := of_decide_eq_true (by first | (with_reducible assumption) | assumption); obtain ⟨ad686, e686, hx686_0, hx686_1, hx686_2⟩ := at_T27 (Kd.R_reads' HO681.out).2.2 t683 p686 q686; cases e686; replace p686 := eq_true p686; replace q686 := eq_true q686; obtain ⟨hcz38_0, hcz38_1, hcz38_2, hfz38_0, hfz38_1, hfz38_2⟩ := cq3 BK672))
      have n0_ : Aside0 (Kd.R k27 27 (((w37.setCell ⟨gb672, 0, none⟩ (.int .i64 ((rd_T27 t679 t683).f0))).setCell ⟨gb672, 1, none⟩ (.int .i64 ((rd_T27 t679 t683).f1))).setCell ⟨gb672, 2, none⟩ (.int .i64 ((rd_T27 t679 t683).f2))) w.heap.size (fun k_ => k_ ≠ gb653 ∧ k_ ≠ gb654 ∧ k_ ≠ gb665 ∧ k_ ≠ gb672) (.slice (some ad686) t679.length co36) t679) := ⟨by (with_reducible repeat (first | apply Kd.R_alloc | apply Kd.R_drewN | apply Kd.R_drew)); exact Kd.R_mono (Kd.R_far (p := ⟨gb672, 2, none⟩) (Kd.R_far (p := ⟨gb672, 1, none⟩) (Kd.R_far (p := ⟨gb672, 0, none⟩) (Kd.R_mono HO681.out (fun k_ hk => (⟨hk, hk.2⟩ : _ ∧ k_ ≠ gb672))) (fun _ hk => hk.2) (.int .i64 ((rd_T27 t679 t683).f0))) (fun _ hk => hk.2) (.int .i64 ((rd_T27 t679 t683).f1))) (fun _ hk => hk.2) (.int .i64 ((rd_T27 t679 t683).f2))) (fun _ hk => ⟨hk.1.1.1.1.2, ⟨hk.1.1.1.2, ⟨hk.1.1.2, hk.1.2⟩⟩⟩)⟩
      have n1_ : Aside0 ((((w37.setCell ⟨gb672, 0, none⟩ (.int .i64 ((rd_T27 t679 t683).f0))).setCell ⟨gb672, 1, none⟩ (.int .i64 ((rd_T27 t679 t683).f1))).setCell ⟨gb672, 2, none⟩ (.int .i64 ((rd_T27 t679 t683).f2))).heap[gb653]? = some (.cells #[.int .i64 0, .int .i64 0, .int .i64 0] 27 (0, 0))) := ⟨bp⟩
      have n2_ : Aside0 ((((w37.setCell ⟨gb672, 0, none⟩ (.int .i64 ((rd_T27 t679 t683).f0))).setCell ⟨gb672, 1, none⟩ (.int .i64 ((rd_T27 t679 t683).f1))).setCell ⟨gb672, 2, none⟩ (.int .i64 ((rd_T27 t679 t683).f2))).heap[gb654]? = some (.cells #[.int .i64 0, .int .i64 0, .int .i64 0] 27 (0, 0))) := ⟨bp⟩
      have n3_ : Aside0 ((((w37.setCell ⟨gb672, 0, none⟩ (.int .i64 ((rd_T27 t679 t683).f0))).setCell ⟨gb672, 1, none⟩ (.int .i64 ((rd_T27 t679 t683).f1))).setCell ⟨gb672, 2, none⟩ (.int .i64 ((rd_T27 t679 t683).f2))).heap[gb665]? = some (.cells #[.int .i64 t660, .int .i64 t661, .int .i64 t662] 27 (0, 0))) := ⟨bp⟩
      have n4_ : Aside0 ((((w37.setCell ⟨gb672, 0, none⟩ (.int .i64 ((rd_T27 t679 t683).f0))).setCell ⟨gb672, 1, none⟩ (.int .i64 ((rd_T27 t679 t683).f1))).setCell ⟨gb672, 2, none⟩ (.int .i64 ((rd_T27 t679 t683).f2))).heap[gb672]? = some (.cells #[.int .i64 ((rd_T27 t679 t683).f0), .int .i64 ((rd_T27 t679 t683).f1), .int .i64 ((rd_T27 t679 t683).f2)] 27 (0, 0))) := ⟨bp⟩
      have n5_ : Aside0 (IsS101 w (((w37.setCell ⟨gb672, 0, none⟩ (.int .i64 ((rd_T27 t679 t683).f0))).setCell ⟨gb672, 1, none⟩ (.int .i64 ((rd_T27 t679 t683).f1))).setCell ⟨gb672, 2, none⟩ (.int .i64 ((rd_T27 t679 t683).f2))) g658 t655 t684 t685) := ⟨by exact is101⟩
      have n6_ : Aside0 (Below w.heap.size w (((w37.setCell ⟨gb672, 0, none⟩ (.int .i64 ((rd_T27 t679 t683).f0))).setCell ⟨gb672, 1, none⟩ (.int .i64 ((rd_T27 t679 t683).f1))).setCell ⟨gb672, 2, none⟩ (.int .i64 ((rd_T27 t679 t683).f2)))) := ⟨by exact ib101⟩
      (try clear HO681)
      (try clear BK653)
      (try clear BK654)
      (try clear BK665)
      (try clear BK672)
      (try clear HI658)
      (try clear HB)
      generalize (((w37.setCell ⟨gb672, 0, none⟩ (.int .i64 ((rd_T27 t679 t683).f0))).setCell ⟨gb672, 1, none⟩ (.int .i64 ((rd_T27 t679 t683).f1))).setCell ⟨gb672, 2, none⟩ (.int .i64 ((rd_T27 t679 t683).f2))) = w39 at n0_ n1_ n2_ n3_ n4_ n5_ n6_ ⊢
      have HO681 := n0_
      have BK653 := n1_
      have BK654 := n2_
      have BK665 := n3_
      have BK672 := n4_
      have HI658 := n5_
      have HB := n6_
      clear n0_ n1_ n2_ n3_ n4_ n5_ n6_
      replace HO681 := Aside0.mk (Kd.R_drew HO681.out)
      replace BK653 := Aside0.mk (blk_drew BK653.out)
      replace BK654 := Aside0.mk (blk_drew BK654.out)
      replace BK665 := Aside0.mk (blk_drew BK665.out)
      replace BK672 := Aside0.mk (blk_drew BK672.out)
      replace HI658 := Aside0.mk (IsS101.drew HI658.out)
      replace HB := Aside0.mk (below_drew1 HB.out)
      refine start_ (n := 6) (S := fun w' => w'.cell? ⟨gb665, 0, none⟩ = some (.int .i64 t660) ∧ w'.cell? ⟨gb665, 1, none⟩ = some (.int .i64 t661) ∧ w'.cell? ⟨gb665, 2, none⟩ = some (.int .i64 t662) ∧ w'.cell? ⟨gb672, 0, none⟩ = some (.int .i64 ((rd_T27 t679 t683).f0)) ∧ w'.cell? ⟨gb672, 1, none⟩ = some (.int .i64 ((rd_T27 t679 t683).f1)) ∧ w'.cell? ⟨gb672, 2, none⟩ = some (.int .i64 ((rd_T27 t679 t683).f2))) (ds := []) (tA 6 0) (by kernel_rfl) rfl rfl ⟨(blk_cell BK665.out 0).trans rfl, (blk_cell BK665.out 1).trans rfl, (blk_cell BK665.out 2).trans rfl, (blk_cell BK672.out 0).trans rfl, (blk_cell BK672.out 1).trans rfl, (blk_cell BK672.out 2).trans rfl⟩ (fun hHeld => ?_)
      generalize w39.drew = w40 at HO681 BK653 BK654 BK665 BK672 HI658 HB hHeld ⊢
      refine pr 0 (some 49) (tA 6 1) ?_
      refine pr 3 (some 2) (tA 6 9) ?_
      refine tr6 1 (some 50) (tA 6 11) hHeld ?_
      refine tr6 2 (some 51) (tA 6 15) hHeld ?_
      refine one_ (i := 4) (N := none) (tA 6 31) rfl rfl (by kernel_rfl) (by decide) (fun K hK => ?_)
      have hs41 : w40.cell? ⟨gb653, 0, none⟩ = some (.int .i64 0) := (blk_cell BK653.out 0).trans rfl
      have hfs41 := blk_frozen BK653.out 0
      have hns41_1 := NB653_654.out.symm
      have hns41_2 := NB653_665.out.symm
      have hns41_3 := NB653_672.out.symm
      have hms41_1 := NB653_654.out
      have hms41_2 := NB653_665.out
      have hms41_3 := NB653_672.out
      have hs42 : w40.cell? ⟨gb653, 1, none⟩ = some (.int .i64 0) := (blk_cell BK653.out 1).trans rfl
      have hfs42 := blk_frozen BK653.out 1
      have hns42_1 := NB653_654.out.symm
      have hns42_2 := NB653_665.out.symm
      have hns42_3 := NB653_672.out.symm
      have hms42_1 := NB653_654.out
      have hms42_2 := NB653_665.out
      have hms42_3 := NB653_672.out
      have hs43 : w40.cell? ⟨gb653, 2, none⟩ = some (.int .i64 0) := (blk_cell BK653.out 2).trans rfl
      have hfs43 := blk_frozen BK653.out 2
      have hns43_1 := NB653_654.out.symm
      have hns43_2 := NB653_665.out.symm
      have hns43_3 := NB653_672.out.symm
      have hms43_1 := NB653_654.out
      have hms43_2 := NB653_665.out
      have hms43_3 := NB653_672.out
      refine skip_ (w1 := ?_) (by rfl) rfl ?_ ?_
      rotate_left
      ·go_simp
       rfl
      refine hK.out _ _ (m3r hHeld (fun e => cs gb653 NB653_665 (cs gb653 NB653_665 (cs gb653 NB653_665 e))) (m3 hHeld.2.2.2 (fun e => cs gb653 NB653_672 (cs gb653 NB653_672 (cs gb653 NB653_672 e))))) (fun hHeld => ?_)
      clear hK K
      refine one_ (i := 5) (N := none) (tA 6 63) rfl rfl (by kernel_rfl) (by decide) (fun K hK => ?_)
      have hs44 : w40.cell? ⟨gb654, 0, none⟩ = some (.int .i64 0) := (blk_cell BK654.out 0).trans rfl
      have hfs44 := blk_frozen BK654.out 0
      have hns44_0 := NB653_654.out
      have hns44_2 := NB654_665.out.symm
      have hns44_3 := NB654_672.out.symm
      have hms44_0 := NB653_654.out.symm
      have hms44_2 := NB654_665.out
      have hms44_3 := NB654_672.out
      have hs45 : w40.cell? ⟨gb654, 1, none⟩ = some (.int .i64 0) := (blk_cell BK654.out 1).trans rfl
      have hfs45 := blk_frozen BK654.out 1
      have hns45_0 := NB653_654.out
      have hns45_2 := NB654_665.out.symm
      have hns45_3 := NB654_672.out.symm
      have hms45_0 := NB653_654.out.symm
      have hms45_2 := NB654_665.out
      have hms45_3 := NB654_672.out
      have hs46 : w40.cell? ⟨gb654, 2, none⟩ = some (.int .i64 0) := (blk_cell BK654.out 2).trans rfl
      have hfs46 := blk_frozen BK654.out 2
      have hns46_0 := NB653_654.out
      have hns46_2 := NB654_665.out.symm
      have hns46_3 := NB654_672.out.symm
      have hms46_0 := NB653_654.out.symm
      have hms46_2 := NB654_665.out
      have hms46_3 := NB654_672.out
      refine skip_ (w1 := ?_) (by rfl) rfl ?_ ?_
      rotate_left
      ·go_simp
       rfl
      refine hK.out _ _ (m3r hHeld (fun e => cs gb654 NB654_665 (cs gb654 NB654_665 (cs gb654 NB654_665 e))) (m3 hHeld.2.2.2 (fun e => cs gb654 NB654_672 (cs gb654 NB654_672 (cs gb654 NB654_672 e))))) (fun hHeld => ?_)
      clear hK K
      refine done_ (by kernel_rfl) ?_
      try go_wp2
      refine bodyPost_ret (results_list (rs := [.tmp 2, .cell 3 27, .cell 4 27]) rfl (by simp) (.tmp (.cell gb653 27 #[.int .i64 t660, .int .i64 t661, .int .i64 t662] (0, 0) _ rfl (bp) Try.underlying27 rfl (by kernel_rfl) (.cell gb654 27 #[.int .i64 ((rd_T27 t679 t683).f0), .int .i64 ((rd_T27 t679 t683).f1), .int .i64 ((rd_T27 t679 t683).f2)] (0, 0) _ rfl (bp) Try.underlying27 rfl (by kernel_rfl) .nil)))) rfl ?_
      exact ⟨er, by exact ib101⟩
     ·exact absurd H (by simp)
    ·exact absurd H (by simp)
   ·obtain ⟨c11b0, c11b1⟩ := zy c11
    simp only [Option.some.injEq, Prod.mk.injEq] at H
    obtain ⟨rfl, rfl, rfl, rfl, rfl, rfl, rfl⟩ := H
    go_enter Try.func68, Try.ntmps68
    try go_wp2_with (first | ((with_reducible refine zg 3 rfl ?_); refine z3 3 27 0 0 0 ?_; intro gb653 hg w47 BK653 hb; have GW653 := sg hg; replace HB := bs hb; clear hb hg) | ((with_reducible refine zg 4 rfl ?_); refine z3 4 27 0 0 0 ?_; intro gb654 hg w48 BK654 hb; have GW654 := sg hg; have NB653_654 := nl hg BK653; replace BK653 := bb BK653 hb; replace HB := bs hb; clear hb hg) | ((with_reducible refine zf 45 rfl ?_); refine g1 (some 12) Try.func45 #[.slice A0 l0.length c0] ?_; (with_reducible refine (spec_l01From.calls k _ _ l0 t655 t656 t657 w _ ?side1 ?side2 ?side3 A2.out).mono ?_); (case side1 => exact bl); (case side2 => exact HR0.out); (case side3 => exact HC0.out); rintro e w49 ⟨g658, rfl, hi, hb, hb2⟩; refine ⟨_, rfl, ?_⟩; have HI658 := Aside0.mk (hi); have NB658_653 := Aside0.mk (IsS101.ne_blk hi (blk_below (g := gb653) (o := .cells #[.int .i64 0, .int .i64 0, .int .i64 0] 27 (0, 0)) (be BK653) hb2) (by decide)); have NB653_658 := Aside0.mk (Ne.symm (IsS101.ne_blk hi (blk_below (g := gb653) (o := .cells #[.int .i64 0, .int .i64 0, .int .i64 0] 27 (0, 0)) (be BK653) hb2) (by decide))); have NB658_654 := Aside0.mk (IsS101.ne_blk hi (blk_below (g := gb654) (o := .cells #[.int .i64 0, .int .i64 0, .int .i64 0] 27 (0, 0)) (be BK654) hb2) (by decide)); have NB654_658 := Aside0.mk (Ne.symm (IsS101.ne_blk hi (blk_below (g := gb654) (o := .cells #[.int .i64 0, .int .i64 0, .int .i64 0] 27 (0, 0)) (be BK654) hb2) (by decide))); replace BK653 := Aside0.mk (blk_below (g := gb653) (o := .cells #[.int .i64 0, .int .i64 0, .int .i64 0] 27 (0, 0)) (be BK653) hb2); replace BK654 := Aside0.mk (blk_below (g := gb654) (o := .cells #[.int .i64 0, .int .i64 0, .int .i64 0] 27 (0, 0)) (be BK654) hb2); replace HB := Aside0.mk (hb); (try clear hb); (try clear hb2); (try clear hk); (try clear hi)) | ((with_reducible refine zf 57 rfl ?_); refine g1 (some 15) Try.func57 #[.pointer (some ⟨g658, 0, none⟩)] ?_; (with_reducible refine (spec_l03Spoil.calls k g658 t655 t656 t657 t659 t660 t661 t662 t663 t664 w _ ?side1 ?side2 A3.out).mono ?_); (case side1 => exact is101); (case side2 => exact ib101); rintro e w50 ⟨rfl, hi, hb, hk⟩; refine ⟨_, rfl, ?_⟩; replace BK653 := kb hk BK653 NB653_658; replace BK654 := kb hk BK654 NB654_658; replace HI658 := Aside0.mk (hi); replace HB := Aside0.mk (hb); (try clear hb hk)) | ((with_reducible refine zg 7 rfl ?_); refine z3 7 27 0 0 0 ?_; intro gb665 hg w51 BK665 hb; have GW665 := Aside0.mk ((by rw [hg]; exact (below_size (ib101)) : w.heap.size ≤ gb665)); have GE665 := Aside0.mk ((by rw [hg]; exact (below_size (ib101)) : w.heap.size ≤ gb665)); have NB653_665 := nl hg BK653; have NB654_665 := nl hg BK654; have NB658_665 := Aside0.mk ((by rw [hg]; exact Nat.ne_of_lt (IsS101.lt (show IsS101 w _ g658 t655 t663 t664 from by exact is101)) : g658 ≠ gb665)); have NB665_658 := Aside0.mk ((by rw [hg]; exact Nat.ne_of_gt (IsS101.lt (show IsS101 w _ g658 t655 t663 t664 from by exact is101)) : gb665 ≠ g658)); replace BK653 := bb BK653 hb; replace BK654 := bb BK654 hb; replace HB := Aside0.mk (below_step (ib101) hb); replace HI658 := Aside0.mk (IsS101.below (is101) hb); clear hb hg; obtain ⟨hnb52, hnc52⟩ := zm NB653_665; obtain ⟨hnb53, hnc53⟩ := zm NB654_665; have hnb54 := NB665_658.out; have hnc54 := NB658_665.out; obtain ⟨hcz55_0, hcz55_1, hcz55_2, hfz55_0, hfz55_1, hfz55_2⟩ := cq3 BK665) | ((with_reducible refine zf 60 rfl ?_); refine g1 (some 20) Try.func60 #[.int .i64 t659, .agg #[.int .i64 t660, .int .i64 t661, .int .i64 t662]] ?_; (with_reducible refine (spec_l03Is.calls k t659 t660 t661 t662 true _ A4.out).mono ?_); rintro e w56 ⟨rfl, hb⟩; refine ⟨_, rfl, ?_⟩; replace BK653 := Aside0.mk (blk_below (g := gb653) (o := .cells #[.int .i64 0, .int .i64 0, .int .i64 0] 27 (0, 0)) (bp) hb); replace BK654 := Aside0.mk (blk_below (g := gb654) (o := .cells #[.int .i64 0, .int .i64 0, .int .i64 0] 27 (0, 0)) (bp) hb); replace BK665 := Aside0.mk (blk_below (g := gb665) (o := .cells #[.int .i64 t660, .int .i64 t661, .int .i64 t662] 27 (0, 0)) (bp) hb); replace HB := Aside0.mk (below_step (ib101) hb); replace HI658 := Aside0.mk (IsS101.below (show IsS101 w (((w51.setCell ⟨gb665, 0, none⟩ (.int .i64 t660)).setCell ⟨gb665, 1, none⟩ (.int .i64 t661)).setCell ⟨gb665, 2, none⟩ (.int .i64 t662)) g658 t655 t663 t664 from by exact is101) hb); (try clear hb)) | ((with_reducible refine zf 81 rfl ?_); refine g1 (some 27) Try.func81 #[.pointer (some ⟨g658, 0, none⟩), .int .i64 t659] ?_; (with_reducible refine (spec_l03Draw.calls k g658 t655 t663 t664 t659 t667 t668 t669 t670 t671 w _ ?side1 ?side2 A6.out).mono ?_); (case side1 => exact is101); (case side2 => exact ib101); rintro e w57 ⟨rfl, hi, hb, hk⟩; refine ⟨_, rfl, ?_⟩; replace BK653 := kb hk BK653 NB653_658; replace BK654 := kb hk BK654 NB654_658; replace BK665 := kb hk BK665 NB665_658; replace HI658 := Aside0.mk (hi); replace HB := Aside0.mk (hb); (try clear hb hk)) | ((with_reducible refine zg 8 rfl ?_); refine z3 8 27 0 0 0 ?_; intro gb672 hg w58 BK672 hb; have GW672 := Aside0.mk ((by rw [hg]; exact (below_size (ib101)) : w.heap.size ≤ gb672)); have GE672 := Aside0.mk ((by rw [hg]; exact (below_size (ib101)) : w.heap.size ≤ gb672)); have NB653_672 := nl hg BK653; have NB654_672 := nl hg BK654; have NB665_672 := nl hg BK665; have NB658_672 := Aside0.mk ((by rw [hg]; exact Nat.ne_of_lt (IsS101.lt (show IsS101 w _ g658 t655 t670 t671 from by exact is101)) : g658 ≠ gb672)); have NB672_658 := Aside0.mk ((by rw [hg]; exact Nat.ne_of_gt (IsS101.lt (show IsS101 w _ g658 t655 t670 t671 from by exact is101)) : gb672 ≠ g658)); replace BK653 := bb BK653 hb; replace BK654 := bb BK654 hb; replace BK665 := bb BK665 hb; replace HB := Aside0.mk (below_step (ib101) hb); replace HI658 := Aside0.mk (IsS101.below (is101) hb); clear hb hg; obtain ⟨hnb59, hnc59⟩ := zm NB653_672; obtain ⟨hnb60, hnc60⟩ := zm NB654_672; obtain ⟨hnb61, hnc61⟩ := zm NB665_672; have hnb62 := NB672_658.out; have hnc62 := NB658_672.out; obtain ⟨hcz63_0, hcz63_1, hcz63_2, hfz63_0, hfz63_1, hfz63_2⟩ := cq3 BK672) | ((with_reducible refine zf 47 rfl ?_); refine g1 (some 29) Try.func47 #[.pointer (some ⟨g658, 0, none⟩), .int .i64 2] ?_; (with_reducible refine (spec_l01Next.calls g658 t655 t670 t671 2 t673 t674 t675 w _ ?side1 ?side2 A7.out).mono ?_); (case side1 => exact is101); (case side2 => exact ib101); rintro e w64 ⟨rfl, hi, hb, hk⟩; refine ⟨_, rfl, ?_⟩; replace BK653 := Aside0.mk (KeepBut.blk hk (g' := gb653) (o := .cells #[.int .i64 0, .int .i64 0, .int .i64 0] 27 (0, 0)) (bp) NB653_658.out (by simp)); replace BK654 := Aside0.mk (KeepBut.blk hk (g' := gb654) (o := .cells #[.int .i64 0, .int .i64 0, .int .i64 0] 27 (0, 0)) (bp) NB654_658.out (by simp)); replace BK665 := Aside0.mk (KeepBut.blk hk (g' := gb665) (o := .cells #[.int .i64 t660, .int .i64 t661, .int .i64 t662] 27 (0, 0)) (bp) NB665_658.out (by simp)); replace BK672 := Aside0.mk (KeepBut.blk hk (g' := gb672) (o := .cells #[.int .i64 t667, .int .i64 t668, .int .i64 t669] 27 (0, 0)) (bp) NB672_658.out (by simp)); replace HI658 := Aside0.mk (hi); replace HB := Aside0.mk (hb); (try clear hb hk)))
    replace BK653 := Aside0.mk (blk_drew BK653.out)
    replace BK654 := Aside0.mk (blk_drew BK654.out)
    replace BK665 := Aside0.mk (blk_drew BK665.out)
    replace BK672 := Aside0.mk (blk_drew BK672.out)
    replace HI658 := Aside0.mk (IsS101.drew HI658.out)
    replace HB := Aside0.mk (below_drew1 HB.out)
    refine sw 11 (fun w' => w'.cell? ⟨gb665, 0, none⟩ = some (.int .i64 t660) ∧ w'.cell? ⟨gb665, 1, none⟩ = some (.int .i64 t661) ∧ w'.cell? ⟨gb665, 2, none⟩ = some (.int .i64 t662)) spec_l03Two.tab7 spec_l03Two.bits7 (e3 BK665) (fun hHeld HT_ HW_ => ?_)
    generalize w64.drew = w65 at BK653 BK654 BK665 BK672 HI658 HB hHeld ⊢
    refine pu 0 (some 32) (tA 11 1) HT_ ?_
    refine pu 2 (some 34) (tA 11 5) HT_ ?_
    refine tk3 1 (some 33) (tA 11 7) HT_ HW_ hHeld ?_
    refine o1 3 (some 35) (tA 11 15) HT_ (fun K hK => ?_)
    refine gs Try.func47 #[.pointer (some ⟨g658, 0, none⟩), .int .i64 2] ?_
    with_reducible refine (spec_l01Next.calls g658 t655 t674 t675 2 t676 t677 t678 w _ ?side1 ?side2 A9.out).mono ?_
    (case side1 => exact is101)
    (case side2 => exact ib101)
    rintro e w66 ⟨rfl, hi, hb, hk⟩
    refine ⟨_, rfl, ?_⟩
    replace BK653 := kb hk BK653 NB653_658
    replace BK654 := kb hk BK654 NB654_658
    replace BK665 := kb hk BK665 NB665_658
    replace BK672 := kb hk BK672 NB672_658
    replace HI658 := Aside0.mk (hi)
    replace HB := Aside0.mk (hb)
    (try clear hb)
    (try clear hb2)
    (try clear hk)
    (try clear hi)
    refine hK.out _ _ (e3 BK665) (fun hHeld => ?_)
    clear hK K
    refine nm (some 35) ?_
    refine pu 4 (some 36) (tA 11 31) HT_ ?_
    refine o1 5 (some 37) (tA 11 63) HT_ (fun K hK => ?_)
    refine gs Try.func5 #[.int .i64 t659, .agg #[.int .i64 t660, .int .i64 t661, .int .i64 t662], .int .i64 (wrap64 (1 + t676))] ?_
    with_reducible refine (spec_LatticesInside.calls k t659 t660 t661 t662 (wrap64 (1 + t676)) t679 t682 _ A10.out).mono ?_
    rintro e w67 ⟨v680, rfl, ho0, hb⟩
    refine ⟨_, rfl, ?_⟩
    have HO681 := Aside0.mk (Kd.R_lower (Kd.R_newB (Kd.R_newB (Kd.R_newB (Kd.R_newB ho0 (g := gb653) (o := .cells #[.int .i64 0, .int .i64 0, .int .i64 0] 27 (0, 0)) (be BK653)) (g := gb654) (o := .cells #[.int .i64 0, .int .i64 0, .int .i64 0] 27 (0, 0)) (be BK654)) (g := gb665) (o := .cells #[.int .i64 t660, .int .i64 t661, .int .i64 t662] 27 (0, 0)) (be BK665)) (g := gb672) (o := .cells #[.int .i64 t667, .int .i64 t668, .int .i64 t669] 27 (0, 0)) (be BK672)) (below_size (ib101)))
    replace BK653 := bb BK653 hb
    replace BK654 := bb BK654 hb
    replace BK665 := bb BK665 hb
    replace BK672 := bb BK672 hb
    replace HB := Aside0.mk (below_step (ib101) hb)
    replace HI658 := Aside0.mk (IsS101.below (is101) hb)
    (try clear hb)
    (try clear hb2)
    (try clear hk)
    (try clear hi)
    (try clear ho0)
    refine hK.out _ _ (e3 BK665) (fun hHeld => ?_)
    clear hK K
    refine nm (some 37) ?_
    refine pu 6 (some 31) (tA 11 127) HT_ ?_
    refine pu 7 (some 38) (tA 11 255) HT_ ?_
    refine pu 8 (some 39) (tA 11 511) HT_ ?_
    refine pu 9 (some 9) (tA 11 1023) HT_ ?_
    refine pu 10 (some 10) (tA 11 2047) HT_ ?_
    refine done_ (done_of HT_.out (by kernel_rfl)) ?_
    try go_wp2
    replace HO681 := Aside0.mk (Kd.R_drew HO681.out)
    replace BK653 := Aside0.mk (blk_drew BK653.out)
    replace BK654 := Aside0.mk (blk_drew BK654.out)
    replace BK665 := Aside0.mk (blk_drew BK665.out)
    replace BK672 := Aside0.mk (blk_drew BK672.out)
    replace HI658 := Aside0.mk (IsS101.drew HI658.out)
    replace HB := Aside0.mk (below_drew1 HB.out)
    refine start_ (n := 6) (S := fun w' => w'.cell? ⟨gb665, 0, none⟩ = some (.int .i64 t660) ∧ w'.cell? ⟨gb665, 1, none⟩ = some (.int .i64 t661) ∧ w'.cell? ⟨gb665, 2, none⟩ = some (.int .i64 t662) ∧ w'.cell? ⟨gb672, 0, none⟩ = some (.int .i64 t667) ∧ w'.cell? ⟨gb672, 1, none⟩ = some (.int .i64 t668) ∧ w'.cell? ⟨gb672, 2, none⟩ = some (.int .i64 t669)) (ds := []) (tA 6 0) (by kernel_rfl) rfl rfl ⟨(blk_cell BK665.out 0).trans rfl, (blk_cell BK665.out 1).trans rfl, (blk_cell BK665.out 2).trans rfl, (blk_cell BK672.out 0).trans rfl, (blk_cell BK672.out 1).trans rfl, (blk_cell BK672.out 2).trans rfl⟩ (fun hHeld => ?_)
    generalize w67.drew = w68 at HO681 BK653 BK654 BK665 BK672 HI658 HB hHeld ⊢
    refine pr 0 (some 49) (tA 6 1) ?_
    refine pr 3 (some 2) (tA 6 9) ?_
    refine tr6 1 (some 50) (tA 6 11) hHeld ?_
    refine tr6 2 (some 51) (tA 6 15) hHeld ?_
    refine one_ (i := 4) (N := none) (tA 6 31) rfl rfl (by kernel_rfl) (by decide) (fun K hK => ?_)
    have hs69 : w68.cell? ⟨gb653, 0, none⟩ = some (.int .i64 0) := (blk_cell BK653.out 0).trans rfl
    have hfs69 := blk_frozen BK653.out 0
    have hns69_1 := NB653_654.out.symm
    have hns69_2 := NB653_665.out.symm
    have hns69_3 := NB653_672.out.symm
    have hms69_1 := NB653_654.out
    have hms69_2 := NB653_665.out
    have hms69_3 := NB653_672.out
    have hs70 : w68.cell? ⟨gb653, 1, none⟩ = some (.int .i64 0) := (blk_cell BK653.out 1).trans rfl
    have hfs70 := blk_frozen BK653.out 1
    have hns70_1 := NB653_654.out.symm
    have hns70_2 := NB653_665.out.symm
    have hns70_3 := NB653_672.out.symm
    have hms70_1 := NB653_654.out
    have hms70_2 := NB653_665.out
    have hms70_3 := NB653_672.out
    have hs71 : w68.cell? ⟨gb653, 2, none⟩ = some (.int .i64 0) := (blk_cell BK653.out 2).trans rfl
    have hfs71 := blk_frozen BK653.out 2
    have hns71_1 := NB653_654.out.symm
    have hns71_2 := NB653_665.out.symm
    have hns71_3 := NB653_672.out.symm
    have hms71_1 := NB653_654.out
    have hms71_2 := NB653_665.out
    have hms71_3 := NB653_672.out
    refine skip_ (w1 := ?_) (by rfl) rfl ?_ ?_
    rotate_left
    ·go_simp
     rfl
    refine hK.out _ _ (m3r hHeld (fun e => cs gb653 NB653_665 (cs gb653 NB653_665 (cs gb653 NB653_665 e))) (m3 hHeld.2.2.2 (fun e => cs gb653 NB653_672 (cs gb653 NB653_672 (cs gb653 NB653_672 e))))) (fun hHeld => ?_)
    clear hK K
    refine one_ (i := 5) (N := none) (tA 6 63) rfl rfl (by kernel_rfl) (by decide) (fun K hK => ?_)
    have hs72 : w68.cell? ⟨gb654, 0, none⟩ = some (.int .i64 0) := (blk_cell BK654.out 0).trans rfl
    have hfs72 := blk_frozen BK654.out 0
    have hns72_0 := NB653_654.out
    have hns72_2 := NB654_665.out.symm
    have hns72_3 := NB654_672.out.symm
    have hms72_0 := NB653_654.out.symm
    have hms72_2 := NB654_665.out
    have hms72_3 := NB654_672.out
    have hs73 : w68.cell? ⟨gb654, 1, none⟩ = some (.int .i64 0) := (blk_cell BK654.out 1).trans rfl
    have hfs73 := blk_frozen BK654.out 1
    have hns73_0 := NB653_654.out
    have hns73_2 := NB654_665.out.symm
    have hns73_3 := NB654_672.out.symm
    have hms73_0 := NB653_654.out.symm
    have hms73_2 := NB654_665.out
    have hms73_3 := NB654_672.out
    have hs74 : w68.cell? ⟨gb654, 2, none⟩ = some (.int .i64 0) := (blk_cell BK654.out 2).trans rfl
    have hfs74 := blk_frozen BK654.out 2
    have hns74_0 := NB653_654.out
    have hns74_2 := NB654_665.out.symm
    have hns74_3 := NB654_672.out.symm
    have hms74_0 := NB653_654.out.symm
    have hms74_2 := NB654_665.out
    have hms74_3 := NB654_672.out
    refine skip_ (w1 := ?_) (by rfl) rfl ?_ ?_
    rotate_left
    ·go_simp
     rfl
    refine hK.out _ _ (m3r hHeld (fun e => cs gb654 NB654_665 (cs gb654 NB654_665 (cs gb654 NB654_665 e))) (m3 hHeld.2.2.2 (fun e => cs gb654 NB654_672 (cs gb654 NB654_672 (cs gb654 NB654_672 e))))) (fun hHeld => ?_)
    clear hK K
    refine done_ (by kernel_rfl) ?_
    try go_wp2
    refine bodyPost_ret (results_list (rs := [.tmp 2, .cell 3 27, .cell 4 27]) rfl (by simp) (.tmp (.cell gb653 27 #[.int .i64 t660, .int .i64 t661, .int .i64 t662] (0, 0) _ rfl (bp) Try.underlying27 rfl (by kernel_rfl) (.cell gb654 27 #[.int .i64 t667, .int .i64 t668, .int .i64 t669] (0, 0) _ rfl (bp) Try.underlying27 rfl (by kernel_rfl) .nil)))) rfl ?_
    exact ⟨er, by exact ib101⟩
  ·obtain ⟨c8b0, c8b1⟩ := zy c8
   simp only [Option.some.injEq, Prod.mk.injEq] at H
   obtain ⟨rfl, rfl, rfl, rfl, rfl, rfl, rfl⟩ := H
   go_enter Try.func68, Try.ntmps68
   try go_wp2_with (first | ((with_reducible refine zg 3 rfl ?_); refine z3 3 27 0 0 0 ?_; intro gb653 hg w75 BK653 hb; have GW653 := sg hg; replace HB := bs hb; clear hb hg) | ((with_reducible refine zg 4 rfl ?_); refine z3 4 27 0 0 0 ?_; intro gb654 hg w76 BK654 hb; have GW654 := sg hg; have NB653_654 := nl hg BK653; replace BK653 := bb BK653 hb; replace HB := bs hb; clear hb hg) | ((with_reducible refine zf 45 rfl ?_); refine g1 (some 12) Try.func45 #[.slice A0 l0.length c0] ?_; (with_reducible refine (spec_l01From.calls k _ _ l0 t655 t656 t657 w _ ?side1 ?side2 ?side3 A2.out).mono ?_); (case side1 => exact bl); (case side2 => exact HR0.out); (case side3 => exact HC0.out); rintro e w77 ⟨g658, rfl, hi, hb, hb2⟩; refine ⟨_, rfl, ?_⟩; have HI658 := Aside0.mk (hi); have NB658_653 := Aside0.mk (IsS101.ne_blk hi (blk_below (g := gb653) (o := .cells #[.int .i64 0, .int .i64 0, .int .i64 0] 27 (0, 0)) (be BK653) hb2) (by decide)); have NB653_658 := Aside0.mk (Ne.symm (IsS101.ne_blk hi (blk_below (g := gb653) (o := .cells #[.int .i64 0, .int .i64 0, .int .i64 0] 27 (0, 0)) (be BK653) hb2) (by decide))); have NB658_654 := Aside0.mk (IsS101.ne_blk hi (blk_below (g := gb654) (o := .cells #[.int .i64 0, .int .i64 0, .int .i64 0] 27 (0, 0)) (be BK654) hb2) (by decide)); have NB654_658 := Aside0.mk (Ne.symm (IsS101.ne_blk hi (blk_below (g := gb654) (o := .cells #[.int .i64 0, .int .i64 0, .int .i64 0] 27 (0, 0)) (be BK654) hb2) (by decide))); replace BK653 := Aside0.mk (blk_below (g := gb653) (o := .cells #[.int .i64 0, .int .i64 0, .int .i64 0] 27 (0, 0)) (be BK653) hb2); replace BK654 := Aside0.mk (blk_below (g := gb654) (o := .cells #[.int .i64 0, .int .i64 0, .int .i64 0] 27 (0, 0)) (be BK654) hb2); replace HB := Aside0.mk (hb); (try clear hb); (try clear hb2); (try clear hk); (try clear hi)) | ((with_reducible refine zf 57 rfl ?_); refine g1 (some 15) Try.func57 #[.pointer (some ⟨g658, 0, none⟩)] ?_; (with_reducible refine (spec_l03Spoil.calls k g658 t655 t656 t657 t659 t660 t661 t662 t663 t664 w _ ?side1 ?side2 A3.out).mono ?_); (case side1 => exact is101); (case side2 => exact ib101); rintro e w78 ⟨rfl, hi, hb, hk⟩; refine ⟨_, rfl, ?_⟩; replace BK653 := kb hk BK653 NB653_658; replace BK654 := kb hk BK654 NB654_658; replace HI658 := Aside0.mk (hi); replace HB := Aside0.mk (hb); (try clear hb hk)) | ((with_reducible refine zg 7 rfl ?_); refine z3 7 27 0 0 0 ?_; intro gb665 hg w79 BK665 hb; have GW665 := Aside0.mk ((by rw [hg]; exact (below_size (ib101)) : w.heap.size ≤ gb665)); have GE665 := Aside0.mk ((by rw [hg]; exact (below_size (ib101)) : w.heap.size ≤ gb665)); have NB653_665 := nl hg BK653; have NB654_665 := nl hg BK654; have NB658_665 := Aside0.mk ((by rw [hg]; exact Nat.ne_of_lt (IsS101.lt (show IsS101 w _ g658 t655 t663 t664 from by exact is101)) : g658 ≠ gb665)); have NB665_658 := Aside0.mk ((by rw [hg]; exact Nat.ne_of_gt (IsS101.lt (show IsS101 w _ g658 t655 t663 t664 from by exact is101)) : gb665 ≠ g658)); replace BK653 := bb BK653 hb; replace BK654 := bb BK654 hb; replace HB := Aside0.mk (below_step (ib101) hb); replace HI658 := Aside0.mk (IsS101.below (is101) hb); clear hb hg; obtain ⟨hnb80, hnc80⟩ := zm NB653_665; obtain ⟨hnb81, hnc81⟩ := zm NB654_665; have hnb82 := NB665_658.out; have hnc82 := NB658_665.out; obtain ⟨hcz83_0, hcz83_1, hcz83_2, hfz83_0, hfz83_1, hfz83_2⟩ := cq3 BK665) | ((with_reducible refine zf 60 rfl ?_); refine g1 (some 20) Try.func60 #[.int .i64 t659, .agg #[.int .i64 t660, .int .i64 t661, .int .i64 t662]] ?_; (with_reducible refine (spec_l03Is.calls k t659 t660 t661 t662 true _ A4.out).mono ?_); rintro e w84 ⟨rfl, hb⟩; refine ⟨_, rfl, ?_⟩; replace BK653 := Aside0.mk (blk_below (g := gb653) (o := .cells #[.int .i64 0, .int .i64 0, .int .i64 0] 27 (0, 0)) (bp) hb); replace BK654 := Aside0.mk (blk_below (g := gb654) (o := .cells #[.int .i64 0, .int .i64 0, .int .i64 0] 27 (0, 0)) (bp) hb); replace BK665 := Aside0.mk (blk_below (g := gb665) (o := .cells #[.int .i64 t660, .int .i64 t661, .int .i64 t662] 27 (0, 0)) (bp) hb); replace HB := Aside0.mk (below_step (ib101) hb); replace HI658 := Aside0.mk (IsS101.below (show IsS101 w (((w79.setCell ⟨gb665, 0, none⟩ (.int .i64 t660)).setCell ⟨gb665, 1, none⟩ (.int .i64 t661)).setCell ⟨gb665, 2, none⟩ (.int .i64 t662)) g658 t655 t663 t664 from by exact is101) hb); (try clear hb)) | ((with_reducible refine zf 81 rfl ?_); refine g1 (some 27) Try.func81 #[.pointer (some ⟨g658, 0, none⟩), .int .i64 t659] ?_; (with_reducible refine (spec_l03Draw.calls k g658 t655 t663 t664 t659 t667 t668 t669 t670 t671 w _ ?side1 ?side2 A6.out).mono ?_); (case side1 => exact is101); (case side2 => exact ib101); rintro e w85 ⟨rfl, hi, hb, hk⟩; refine ⟨_, rfl, ?_⟩; replace BK653 := kb hk BK653 NB653_658; replace BK654 := kb hk BK654 NB654_658; replace BK665 := kb hk BK665 NB665_658; replace HI658 := Aside0.mk (hi); replace HB := Aside0.mk (hb); (try clear hb hk)) | ((with_reducible refine zg 8 rfl ?_); refine z3 8 27 0 0 0 ?_; intro gb672 hg w86 BK672 hb; have GW672 := Aside0.mk ((by rw [hg]; exact (below_size (ib101)) : w.heap.size ≤ gb672)); have GE672 := Aside0.mk ((by rw [hg]; exact (below_size (ib101)) : w.heap.size ≤ gb672)); have NB653_672 := nl hg BK653; have NB654_672 := nl hg BK654; have NB665_672 := nl hg BK665; have NB658_672 := Aside0.mk ((by rw [hg]; exact Nat.ne_of_lt (IsS101.lt (show IsS101 w _ g658 t655 t670 t671 from by exact is101)) : g658 ≠ gb672)); have NB672_658 := Aside0.mk ((by rw [hg]; exact Nat.ne_of_gt (IsS101.lt (show IsS101 w _ g658 t655 t670 t671 from by exact is101)) : gb672 ≠ g658)); replace BK653 := bb BK653 hb; replace BK654 := bb BK654 hb; replace BK665 := bb BK665 hb; replace HB := Aside0.mk (below_step (ib101) hb); replace HI658 := Aside0.mk (IsS101.below (is101) hb); clear hb hg; obtain ⟨hnb87, hnc87⟩ := zm NB653_672; obtain ⟨hnb88, hnc88⟩ := zm NB654_672; obtain ⟨hnb89, hnc89⟩ := zm NB665_672; have hnb90 := NB672_658.out; have hnc90 := NB658_672.out; obtain ⟨hcz91_0, hcz91_1, hcz91_2, hfz91_0, hfz91_1, hfz91_2⟩ := cq3 BK672) | ((with_reducible refine zf 47 rfl ?_); refine g1 (some 29) Try.func47 #[.pointer (some ⟨g658, 0, none⟩), .int .i64 2] ?_; (with_reducible refine (spec_l01Next.calls g658 t655 t670 t671 2 t673 t674 t675 w _ ?side1 ?side2 A7.out).mono ?_); (case side1 => exact is101); (case side2 => exact ib101); rintro e w92 ⟨rfl, hi, hb, hk⟩; refine ⟨_, rfl, ?_⟩; replace BK653 := Aside0.mk (KeepBut.blk hk (g' := gb653) (o := .cells #[.int .i64 0, .int .i64 0, .int .i64 0] 27 (0, 0)) (bp) NB653_658.out (by simp)); replace BK654 := Aside0.mk (KeepBut.blk hk (g' := gb654) (o := .cells #[.int .i64 0, .int .i64 0, .int .i64 0] 27 (0, 0)) (bp) NB654_658.out (by simp)); replace BK665 := Aside0.mk (KeepBut.blk hk (g' := gb665) (o := .cells #[.int .i64 t660, .int .i64 t661, .int .i64 t662] 27 (0, 0)) (bp) NB665_658.out (by simp)); replace BK672 := Aside0.mk (KeepBut.blk hk (g' := gb672) (o := .cells #[.int .i64 t667, .int .i64 t668, .int .i64 t669] 27 (0, 0)) (bp) NB672_658.out (by simp)); replace HI658 := Aside0.mk (hi); replace HB := Aside0.mk (hb); (try clear hb hk)))
   replace BK653 := Aside0.mk (blk_drew BK653.out)
   replace BK654 := Aside0.mk (blk_drew BK654.out)
   replace BK665 := Aside0.mk (blk_drew BK665.out)
   replace BK672 := Aside0.mk (blk_drew BK672.out)
   replace HI658 := Aside0.mk (IsS101.drew HI658.out)
   replace HB := Aside0.mk (below_drew1 HB.out)
   refine start_ (n := 6) (S := fun w' => w'.cell? ⟨gb665, 0, none⟩ = some (.int .i64 t660) ∧ w'.cell? ⟨gb665, 1, none⟩ = some (.int .i64 t661) ∧ w'.cell? ⟨gb665, 2, none⟩ = some (.int .i64 t662) ∧ w'.cell? ⟨gb672, 0, none⟩ = some (.int .i64 t667) ∧ w'.cell? ⟨gb672, 1, none⟩ = some (.int .i64 t668) ∧ w'.cell? ⟨gb672, 2, none⟩ = some (.int .i64 t669)) (ds := []) (tA 6 0) (by kernel_rfl) rfl rfl ⟨(blk_cell BK665.out 0).trans rfl, (blk_cell BK665.out 1).trans rfl, (blk_cell BK665.out 2).trans rfl, (blk_cell BK672.out 0).trans rfl, (blk_cell BK672.out 1).trans rfl, (blk_cell BK672.out 2).trans rfl⟩ (fun hHeld => ?_)
   generalize w92.drew = w93 at BK653 BK654 BK665 BK672 HI658 HB hHeld ⊢
   refine pr 0 (some 49) (tA 6 1) ?_
   refine pr 3 (some 2) (tA 6 9) ?_
   refine tr6 1 (some 50) (tA 6 11) hHeld ?_
   refine tr6 2 (some 51) (tA 6 15) hHeld ?_
   refine one_ (i := 4) (N := none) (tA 6 31) rfl rfl (by kernel_rfl) (by decide) (fun K hK => ?_)
   have hs94 : w93.cell? ⟨gb653, 0, none⟩ = some (.int .i64 0) := (blk_cell BK653.out 0).trans rfl
   have hfs94 := blk_frozen BK653.out 0
   have hns94_1 := NB653_654.out.symm
   have hns94_2 := NB653_665.out.symm
   have hns94_3 := NB653_672.out.symm
   have hms94_1 := NB653_654.out
   have hms94_2 := NB653_665.out
   have hms94_3 := NB653_672.out
   have hs95 : w93.cell? ⟨gb653, 1, none⟩ = some (.int .i64 0) := (blk_cell BK653.out 1).trans rfl
   have hfs95 := blk_frozen BK653.out 1
   have hns95_1 := NB653_654.out.symm
   have hns95_2 := NB653_665.out.symm
   have hns95_3 := NB653_672.out.symm
   have hms95_1 := NB653_654.out
   have hms95_2 := NB653_665.out
   have hms95_3 := NB653_672.out
   have hs96 : w93.cell? ⟨gb653, 2, none⟩ = some (.int .i64 0) := (blk_cell BK653.out 2).trans rfl
   have hfs96 := blk_frozen BK653.out 2
   have hns96_1 := NB653_654.out.symm
   have hns96_2 := NB653_665.out.symm
   have hns96_3 := NB653_672.out.symm
   have hms96_1 := NB653_654.out
   have hms96_2 := NB653_665.out
   have hms96_3 := NB653_672.out
   refine skip_ (w1 := ?_) (by rfl) rfl ?_ ?_
   rotate_left
   ·go_simp
    rfl
   refine hK.out _ _ (m3r hHeld (fun e => cs gb653 NB653_665 (cs gb653 NB653_665 (cs gb653 NB653_665 e))) (m3 hHeld.2.2.2 (fun e => cs gb653 NB653_672 (cs gb653 NB653_672 (cs gb653 NB653_672 e))))) (fun hHeld => ?_)
   clear hK K
   refine one_ (i := 5) (N := none) (tA 6 63) rfl rfl (by kernel_rfl) (by decide) (fun K hK => ?_)
   have hs97 : w93.cell? ⟨gb654, 0, none⟩ = some (.int .i64 0) := (blk_cell BK654.out 0).trans rfl
   have hfs97 := blk_frozen BK654.out 0
   have hns97_0 := NB653_654.out
   have hns97_2 := NB654_665.out.symm
   have hns97_3 := NB654_672.out.symm
   have hms97_0 := NB653_654.out.symm
   have hms97_2 := NB654_665.out
   have hms97_3 := NB654_672.out
   have hs98 : w93.cell? ⟨gb654, 1, none⟩ = some (.int .i64 0) := (blk_cell BK654.out 1).trans rfl
   have hfs98 := blk_frozen BK654.out 1
   have hns98_0 := NB653_654.out
   have hns98_2 := NB654_665.out.symm
   have hns98_3 := NB654_672.out.symm
   have hms98_0 := NB653_654.out.symm
   have hms98_2 := NB654_665.out
   have hms98_3 := NB654_672.out
   have hs99 : w93.cell? ⟨gb654, 2, none⟩ = some (.int .i64 0) := (blk_cell BK654.out 2).trans rfl
   have hfs99 := blk_frozen BK654.out 2
   have hns99_0 := NB653_654.out
   have hns99_2 := NB654_665.out.symm
   have hns99_3 := NB654_672.out.symm
   have hms99_0 := NB653_654.out.symm
   have hms99_2 := NB654_665.out
   have hms99_3 := NB654_672.out
   refine skip_ (w1 := ?_) (by rfl) rfl ?_ ?_
   rotate_left
   ·go_simp
    rfl
   refine hK.out _ _ (m3r hHeld (fun e => cs gb654 NB654_665 (cs gb654 NB654_665 (cs gb654 NB654_665 e))) (m3 hHeld.2.2.2 (fun e => cs gb654 NB654_672 (cs gb654 NB654_672 (cs gb654 NB654_672 e))))) (fun hHeld => ?_)
   clear hK K
   refine done_ (by kernel_rfl) ?_
   try go_wp2
   refine bodyPost_ret (results_list (rs := [.tmp 2, .cell 3 27, .cell 4 27]) rfl (by simp) (.tmp (.cell gb653 27 #[.int .i64 t660, .int .i64 t661, .int .i64 t662] (0, 0) _ rfl (bp) Try.underlying27 rfl (by kernel_rfl) (.cell gb654 27 #[.int .i64 t667, .int .i64 t668, .int .i64 t669] (0, 0) _ rfl (bp) Try.underlying27 rfl (by kernel_rfl) .nil)))) rfl ?_
   exact ⟨er, by exact ib101⟩
 ·replace c5 := Bool.eq_false_iff.mpr c5
  subst c5
  have H1 : (some (t659, t660, t661, t662, t660, t661, t662)) = some (r1, r2, r3, r4, r5, r6, r7) := by rw [if_neg (show ¬ (false = true) by decide)] at H; exact H
  clear H
  have H := H1
  clear H1
  simp only [Option.some.injEq, Prod.mk.injEq] at H
  obtain ⟨rfl, rfl, rfl, rfl, rfl, rfl, rfl⟩ := H
  go_enter Try.func68, Try.ntmps68
  try go_wp2_with (first | ((with_reducible refine zg 3 rfl ?_); refine z3 3 27 0 0 0 ?_; intro gb653 hg w100 BK653 hb; have GW653 := sg hg; replace HB := bs hb; clear hb hg) | ((with_reducible refine zg 4 rfl ?_); refine z3 4 27 0 0 0 ?_; intro gb654 hg w101 BK654 hb; have GW654 := sg hg; have NB653_654 := nl hg BK653; replace BK653 := bb BK653 hb; replace HB := bs hb; clear hb hg) | ((with_reducible refine zf 45 rfl ?_); refine g1 (some 12) Try.func45 #[.slice A0 l0.length c0] ?_; (with_reducible refine (spec_l01From.calls k _ _ l0 t655 t656 t657 w _ ?side1 ?side2 ?side3 A2.out).mono ?_); (case side1 => exact bl); (case side2 => exact HR0.out); (case side3 => exact HC0.out); rintro e w102 ⟨g658, rfl, hi, hb, hb2⟩; refine ⟨_, rfl, ?_⟩; have HI658 := Aside0.mk (hi); have NB658_653 := Aside0.mk (IsS101.ne_blk hi (blk_below (g := gb653) (o := .cells #[.int .i64 0, .int .i64 0, .int .i64 0] 27 (0, 0)) (be BK653) hb2) (by decide)); have NB653_658 := Aside0.mk (Ne.symm (IsS101.ne_blk hi (blk_below (g := gb653) (o := .cells #[.int .i64 0, .int .i64 0, .int .i64 0] 27 (0, 0)) (be BK653) hb2) (by decide))); have NB658_654 := Aside0.mk (IsS101.ne_blk hi (blk_below (g := gb654) (o := .cells #[.int .i64 0, .int .i64 0, .int .i64 0] 27 (0, 0)) (be BK654) hb2) (by decide)); have NB654_658 := Aside0.mk (Ne.symm (IsS101.ne_blk hi (blk_below (g := gb654) (o := .cells #[.int .i64 0, .int .i64 0, .int .i64 0] 27 (0, 0)) (be BK654) hb2) (by decide))); replace BK653 := Aside0.mk (blk_below (g := gb653) (o := .cells #[.int .i64 0, .int .i64 0, .int .i64 0] 27 (0, 0)) (be BK653) hb2); replace BK654 := Aside0.mk (blk_below (g := gb654) (o := .cells #[.int .i64 0, .int .i64 0, .int .i64 0] 27 (0, 0)) (be BK654) hb2); replace HB := Aside0.mk (hb); (try clear hb); (try clear hb2); (try clear hk); (try clear hi)) | ((with_reducible refine zf 57 rfl ?_); refine g1 (some 15) Try.func57 #[.pointer (some ⟨g658, 0, none⟩)] ?_; (with_reducible refine (spec_l03Spoil.calls k g658 t655 t656 t657 t659 t660 t661 t662 t663 t664 w _ ?side1 ?side2 A3.out).mono ?_); (case side1 => exact is101); (case side2 => exact ib101); rintro e w103 ⟨rfl, hi, hb, hk⟩; refine ⟨_, rfl, ?_⟩; replace BK653 := kb hk BK653 NB653_658; replace BK654 := kb hk BK654 NB654_658; replace HI658 := Aside0.mk (hi); replace HB := Aside0.mk (hb); (try clear hb hk)) | ((with_reducible refine zg 7 rfl ?_); refine z3 7 27 0 0 0 ?_; intro gb665 hg w104 BK665 hb; have GW665 := Aside0.mk ((by rw [hg]; exact (below_size (ib101)) : w.heap.size ≤ gb665)); have GE665 := Aside0.mk ((by rw [hg]; exact (below_size (ib101)) : w.heap.size ≤ gb665)); have NB653_665 := nl hg BK653; have NB654_665 := nl hg BK654; have NB658_665 := Aside0.mk ((by rw [hg]; exact Nat.ne_of_lt (IsS101.lt (show IsS101 w _ g658 t655 t663 t664 from by exact is101)) : g658 ≠ gb665)); have NB665_658 := Aside0.mk ((by rw [hg]; exact Nat.ne_of_gt (IsS101.lt (show IsS101 w _ g658 t655 t663 t664 from by exact is101)) : gb665 ≠ g658)); replace BK653 := bb BK653 hb; replace BK654 := bb BK654 hb; replace HB := Aside0.mk (below_step (ib101) hb); replace HI658 := Aside0.mk (IsS101.below (is101) hb); clear hb hg; obtain ⟨hnb105, hnc105⟩ := zm NB653_665; obtain ⟨hnb106, hnc106⟩ := zm NB654_665; have hnb107 := NB665_658.out; have hnc107 := NB658_665.out; obtain ⟨hcz108_0, hcz108_1, hcz108_2, hfz108_0, hfz108_1, hfz108_2⟩ := cq3 BK665) | ((with_reducible refine zf 60 rfl ?_); refine g1 (some 20) Try.func60 #[.int .i64 t659, .agg #[.int .i64 t660, .int .i64 t661, .int .i64 t662]] ?_; (with_reducible refine (spec_l03Is.calls k t659 t660 t661 t662 false _ A4.out).mono ?_); rintro e w109 ⟨rfl, hb⟩; refine ⟨_, rfl, ?_⟩; replace BK653 := Aside0.mk (blk_below (g := gb653) (o := .cells #[.int .i64 0, .int .i64 0, .int .i64 0] 27 (0, 0)) (bp) hb); replace BK654 := Aside0.mk (blk_below (g := gb654) (o := .cells #[.int .i64 0, .int .i64 0, .int .i64 0] 27 (0, 0)) (bp) hb); replace BK665 := Aside0.mk (blk_below (g := gb665) (o := .cells #[.int .i64 t660, .int .i64 t661, .int .i64 t662] 27 (0, 0)) (bp) hb); replace HB := Aside0.mk (below_step (ib101) hb); replace HI658 := Aside0.mk (IsS101.below (show IsS101 w (((w104.setCell ⟨gb665, 0, none⟩ (.int .i64 t660)).setCell ⟨gb665, 1, none⟩ (.int .i64 t661)).setCell ⟨gb665, 2, none⟩ (.int .i64 t662)) g658 t655 t663 t664 from by exact is101) hb); (try clear hb)))
  replace BK653 := Aside0.mk (blk_drew BK653.out)
  replace BK654 := Aside0.mk (blk_drew BK654.out)
  replace BK665 := Aside0.mk (blk_drew BK665.out)
  replace HI658 := Aside0.mk (IsS101.drew HI658.out)
  replace HB := Aside0.mk (below_drew1 HB.out)
  refine start_ (n := 6) (S := fun w' => w'.cell? ⟨gb665, 0, none⟩ = some (.int .i64 t660) ∧ w'.cell? ⟨gb665, 1, none⟩ = some (.int .i64 t661) ∧ w'.cell? ⟨gb665, 2, none⟩ = some (.int .i64 t662)) (ds := []) (tA 6 0) (by kernel_rfl) rfl rfl ⟨(blk_cell BK665.out 0).trans rfl, (blk_cell BK665.out 1).trans rfl, (blk_cell BK665.out 2).trans rfl⟩ (fun hHeld => ?_)
  generalize w109.drew = w110 at BK653 BK654 BK665 HI658 HB hHeld ⊢
  refine pr 0 (some 22) (tA 6 1) ?_
  refine pr 3 (some 2) (tA 6 9) ?_
  refine tr3 1 (some 23) (tA 6 11) hHeld ?_
  refine tr3 2 (some 24) (tA 6 15) hHeld ?_
  refine one_ (i := 4) (N := none) (tA 6 31) rfl rfl (by kernel_rfl) (by decide) (fun K hK => ?_)
  have hs111 : w110.cell? ⟨gb653, 0, none⟩ = some (.int .i64 0) := (blk_cell BK653.out 0).trans rfl
  have hfs111 := blk_frozen BK653.out 0
  have hns111_1 := NB653_654.out.symm
  have hns111_2 := NB653_665.out.symm
  have hms111_1 := NB653_654.out
  have hms111_2 := NB653_665.out
  have hs112 : w110.cell? ⟨gb653, 1, none⟩ = some (.int .i64 0) := (blk_cell BK653.out 1).trans rfl
  have hfs112 := blk_frozen BK653.out 1
  have hns112_1 := NB653_654.out.symm
  have hns112_2 := NB653_665.out.symm
  have hms112_1 := NB653_654.out
  have hms112_2 := NB653_665.out
  have hs113 : w110.cell? ⟨gb653, 2, none⟩ = some (.int .i64 0) := (blk_cell BK653.out 2).trans rfl
  have hfs113 := blk_frozen BK653.out 2
  have hns113_1 := NB653_654.out.symm
  have hns113_2 := NB653_665.out.symm
  have hms113_1 := NB653_654.out
  have hms113_2 := NB653_665.out
  refine skip_ (w1 := ?_) (by rfl) rfl ?_ ?_
  rotate_left
  ·go_simp
   rfl
  refine hK.out _ _ (m3 hHeld (fun e => cs gb653 NB653_665 (cs gb653 NB653_665 (cs gb653 NB653_665 e)))) (fun hHeld => ?_)
  clear hK K
  refine one_ (i := 5) (N := none) (tA 6 63) rfl rfl (by kernel_rfl) (by decide) (fun K hK => ?_)
  have hs114 : w110.cell? ⟨gb654, 0, none⟩ = some (.int .i64 0) := (blk_cell BK654.out 0).trans rfl
  have hfs114 := blk_frozen BK654.out 0
  have hns114_0 := NB653_654.out
  have hns114_2 := NB654_665.out.symm
  have hms114_0 := NB653_654.out.symm
  have hms114_2 := NB654_665.out
  have hs115 : w110.cell? ⟨gb654, 1, none⟩ = some (.int .i64 0) := (blk_cell BK654.out 1).trans rfl
  have hfs115 := blk_frozen BK654.out 1
  have hns115_0 := NB653_654.out
  have hns115_2 := NB654_665.out.symm
  have hms115_0 := NB653_654.out.symm
  have hms115_2 := NB654_665.out
  have hs116 : w110.cell? ⟨gb654, 2, none⟩ = some (.int .i64 0) := (blk_cell BK654.out 2).trans rfl
  have hfs116 := blk_frozen BK654.out 2
  have hns116_0 := NB653_654.out
  have hns116_2 := NB654_665.out.symm
  have hms116_0 := NB653_654.out.symm
  have hms116_2 := NB654_665.out
  refine skip_ (w1 := ?_) (by rfl) rfl ?_ ?_
  rotate_left
  ·go_simp
   rfl
  refine hK.out _ _ (m3 hHeld (fun e => cs gb654 NB654_665 (cs gb654 NB654_665 (cs gb654 NB654_665 e)))) (fun hHeld => ?_)
  clear hK K
  refine done_ (by kernel_rfl) ?_
  try go_wp2
  refine bodyPost_ret (results_list (rs := [.tmp 2, .cell 3 27, .cell 4 27]) rfl (by simp) (.tmp (.cell gb653 27 #[.int .i64 t660, .int .i64 t661, .int .i64 t662] (0, 0) _ rfl (bp) Try.underlying27 rfl (by kernel_rfl) (.cell gb654 27 #[.int .i64 t660, .int .i64 t661, .int .i64 t662] (0, 0) _ rfl (bp) Try.underlying27 rfl (by kernel_rfl) .nil)))) rfl ?_
  exact ⟨er, by exact ib101⟩

end Go.Proofs.Ytkfodnlogflcpaa.PFnLattices

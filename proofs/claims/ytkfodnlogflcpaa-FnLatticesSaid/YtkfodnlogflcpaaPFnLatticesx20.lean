-- Printed by the kit's print and repaired by a program of this session.
import Derived.Test.YtkfodnlogflcpaaPFnLatticesx0
import Derived.Test.YtkfodnlogflcpaaPFnLatticesx3
import Derived.Test.YtkfodnlogflcpaaPFnLatticesx10
import Derived.Test.YtkfodnlogflcpaaPFnLatticesx11
namespace Go.Proofs.Ytkfodnlogflcpaa.PFnLattices
open Go.RowKit Go.Proofs.YtkfodnlogflcpaaW.PrintWords Go.Proofs.YtkfodnlogflcpaaW.PrintLast Go.Proofs.YtkfodnlogflcpaaW.PrintMore
attribute [local go_sem] max2_int min2_int max_two min_two max_three min_three max_four min_four
set_option linter.unusedVariables false
set_option linter.unusedSimpArgs false

/-! ### spec_DrawHoldsVector: function 30 -/
mutual
def spec_DrawHoldsVector.j0 : Nat → Int → Bool → List Int → Int → Int → Int → Int → Int → Option (Int × Int × Int × Int × Int × Int)
 | 0, _, _, _, _, _, _, _, _ => none
 | k + 1, x7, x27, x727000, x727001, x727002, x734000, x734001, x734002 => if x27 = true then ((spec_l01Next.f x727000 x727001 x727002 5).bind fun bt738 => ((spec_l01Next.f x727000 bt738.2.1 bt738.2.2 5).bind fun bt741 => ((spec_l01Power.f k x7 x734000).bind fun t744 => ((spec_l01Power.f k x7 x734002).bind fun t745 => (if (mx (mx (mx (wrap64 ((wrap64 ((wrap64 (bt738.1 - 2)) * t744)) + (wrap64 ((wrap64 (bt741.1 - 2)) * x734001)))) (wrap64 (-(wrap64 ((wrap64 ((wrap64 (bt738.1 - 2)) * t744)) + (wrap64 ((wrap64 (bt741.1 - 2)) * x734001))))))) (wrap64 ((wrap64 (bt741.1 - 2)) * t745))) (wrap64 (-(wrap64 ((wrap64 (bt741.1 - 2)) * t745))))) ≤ 1000000 then (some (x7, x734000, x734001, x734002, wrap64 ((wrap64 ((wrap64 (bt738.1 - 2)) * t744)) + (wrap64 ((wrap64 (bt741.1 - 2)) * x734001))), wrap64 ((wrap64 (bt741.1 - 2)) * t745))) else (spec_DrawHoldsVector.j1 k x7 x727000 bt741.2.1 bt741.2.2 x734000 x734001 x734002)))))) else (spec_DrawHoldsVector.j1 k x7 x727000 x727001 x727002 x734000 x734001 x734002)
def spec_DrawHoldsVector.j1 : Nat → Int → List Int → Int → Int → Int → Int → Int → Option (Int × Int × Int × Int × Int × Int)
 | 0, _, _, _, _, _, _, _ => none
 | k + 1, x7, x727000, x727001, x727002, x734000, x734001, x734002 => (spec_l01Next.f x727000 x727001 x727002 30).bind fun bt746 => ((spec_l01Next.f x727000 bt746.2.1 bt746.2.2 2000001).bind fun bt749 => ((spec_l01Pick.f x727000 bt749.2.1 bt749.2.2 (([wrap64 (bt746.1 - 15), wrap64 (bt749.1 - 1000000), 1000001] : List Int))).bind fun bt755 => ((spec_l01Next.f x727000 bt755.2.1 bt755.2.2 30).bind fun bt758 => ((spec_l01Next.f x727000 bt758.2.1 bt758.2.2 2000001).bind fun bt761 => ((spec_l01Pick.f x727000 bt761.2.1 bt761.2.2 (([0, wrap64 (bt758.1 - 15), wrap64 (bt761.1 - 1000000)] : List Int))).bind fun bt767 => (some (x7, x734000, x734001, x734002, bt755.1, bt767.1)))))))
end
def spec_DrawHoldsVector.f (k : Nat) (l0 : List Int) : Option (Int × Int × Int × Int × Int × Int) := (spec_l01From.f k l0).bind fun bt723 => ((spec_l03Spoil.f k bt723.1 bt723.2.1 bt723.2.2).bind fun bt727 => ((spec_l03Is.f k bt727.1 bt727.2.1 bt727.2.2.1 bt727.2.2.2.1).bind fun t734 => (if t734 = true then ((spec_l01Next.f bt723.1 bt727.2.2.2.2.1 bt727.2.2.2.2.2 2).bind fun bt735 => (spec_DrawHoldsVector.j0 k bt727.1 (bt735.1 == 0) bt723.1 bt735.2.1 bt735.2.2 bt727.2.1 bt727.2.2.1 bt727.2.2.2.1)) else (spec_DrawHoldsVector.j0 k bt727.1 false bt723.1 bt727.2.2.2.2.1 bt727.2.2.2.2.2 bt727.2.1 bt727.2.2.1 bt727.2.2.2.1))))
def spec_DrawHoldsVector.T5 : Bool × List (List Nat × List Nat) := (true, [([], []), ([], []), ([], []), ([2], [2]), ([1, 3], [1, 3]), ([0, 4], [0, 4]), ([], []), ([], []), ([7], [7]), ([6, 8], [6, 8]), ([5, 9], [5, 9]), ([], []), ([], []), ([], []), ([13], [13]), ([12, 14, 4], [12, 14]), ([11, 15], [11, 15]), ([10, 15, 0, 1, 2, 3, 4, 5, 6, 7, 8, 9, 10], [10]), ([16, 17, 0, 1, 2, 3, 4, 5, 6, 7, 8, 9, 10, 11, 12, 13, 14, 15, 16, 17], [16])])
def spec_DrawHoldsVector.B5 : List Nat := [0, 0, 0, 4, 14, 31, 0, 0, 128, 448, 1023, 0, 0, 0, 8192, 28702, 63518, 63487, 262143]
theorem spec_DrawHoldsVector.tab5 : rtab .any (opsOf Try.f30 5) = spec_DrawHoldsVector.T5 := by kernel_rfl
theorem spec_DrawHoldsVector.bits5 : waitsOk spec_DrawHoldsVector.T5.2 spec_DrawHoldsVector.B5 = true := by kernel_rfl
def spec_DrawHoldsVector.T7 : Bool × List (List Nat × List Nat) := (true, [([], []), ([], []), ([], []), ([], []), ([0, 0], [0]), ([1, 4, 0, 1, 4], [1]), ([2, 5, 0, 1, 2, 4, 5], [2]), ([3, 6, 0, 1, 2, 3, 4, 5, 6], [3])])
def spec_DrawHoldsVector.B7 : List Nat := [0, 0, 0, 0, 1, 19, 55, 127]
theorem spec_DrawHoldsVector.tab7 : rtab .any (opsOf Try.f30 7) = spec_DrawHoldsVector.T7 := by kernel_rfl
theorem spec_DrawHoldsVector.bits7 : waitsOk spec_DrawHoldsVector.T7.2 spec_DrawHoldsVector.B7 = true := by kernel_rfl
def spec_DrawHoldsVector.T8 : Bool × List (List Nat × List Nat) := (true, [([], []), ([], []), ([], []), ([], []), ([3], [3]), ([4], [4]), ([], []), ([6, 4], [6]), ([7], [7]), ([5, 8], [5, 8]), ([2, 9, 7], [2, 9]), ([], []), ([], []), ([12, 10], [12]), ([13], [13]), ([], []), ([15, 13], [15]), ([16], [16]), ([14, 17], [14, 17]), ([11, 18, 16], [11, 18]), ([0, 19, 0], [0]), ([1, 20, 0, 1, 20], [1]), ([10, 21, 0, 1, 2, 3, 4, 5, 6, 7, 8, 9, 10, 20, 21], [10]), ([19, 22, 0, 1, 2, 3, 4, 5, 6, 7, 8, 9, 10, 11, 12, 13, 14, 15, 16, 17, 18, 19, 20, 21, 22], [19])])
def spec_DrawHoldsVector.B8 : List Nat := [0, 0, 0, 0, 8, 24, 0, 88, 216, 504, 1020, 0, 0, 6140, 14332, 0, 47100, 112636, 260092, 524284, 1048573, 2097151, 4194303, 8388607]
theorem spec_DrawHoldsVector.tab8 : rtab .any (opsOf Try.f30 8) = spec_DrawHoldsVector.T8 := by kernel_rfl
theorem spec_DrawHoldsVector.bits8 : waitsOk spec_DrawHoldsVector.T8.2 spec_DrawHoldsVector.B8 = true := by kernel_rfl
set_option maxHeartbeats 8000000 in
set_option maxRecDepth 100000 in
theorem spec_DrawHoldsVector.calls (k : Nat) (A0 : Option Addr) (c0 : Nat) (l0 : List Int) (r1 : Int) (r2 : Int) (r3 : Int) (r4 : Int) (r5 : Int) (r6 : Int) (w : World) (hr0 : Kd.C (Kd.int .u8) w A0 l0.length l0) (hc0 : l0.length ≤ c0) (h : spec_DrawHoldsVector.f k l0 = some (r1, r2, r3, r4, r5, r6)) :
  Calls Try.prog 30 #[.slice A0 l0.length c0] w fun e w' => e = .returned (.tuple #[.int .i64 r1, .agg #[.int .i64 r2, .int .i64 r3, .int .i64 r4], .int .i64 r5, .int .i64 r6]) ∧ Below w.heap.size w w' := by
 have hu27 := Try.underlying27
 have HR0 := Aside0.mk hr0
 have HC0 := Aside0.mk hc0
 clear hr0 hc0
 have HB := Aside0.mk (Below.refl w.heap.size w)
 unfold spec_DrawHoldsVector.f at h
 have H := h
 clear h
 replace H := zi H
 obtain ⟨⟨t723, t724, t725⟩, A2, H⟩ := H
 try dsimp only at H
 replace H := zi H
 obtain ⟨⟨t727, t728, t729, t730, t731, t732⟩, A3, H⟩ := H
 try dsimp only at H
 have HC4 := Aside0.mk H
 clear H
 go_enter Try.func30, Try.ntmps30
 go_upto_region 3 with (first | ((with_reducible refine zg 3 rfl ?_); refine z3 3 27 0 0 0 ?_; intro gb722 hg w5 BK722 hb; have GW722 := sg hg; replace HB := bs hb; clear hb hg) | ((with_reducible refine zf 45 rfl ?_); refine g1 (some 14) Try.func45 #[.slice A0 l0.length c0] ?_; (with_reducible refine (spec_l01From.calls k _ _ l0 t723 t724 t725 w _ ?side1 ?side2 ?side3 A2.out).mono ?_); (case side1 => exact bl); (case side2 => exact HR0.out); (case side3 => exact HC0.out); rintro e w6 ⟨g726, rfl, hi, hb, hb2⟩; refine ⟨_, rfl, ?_⟩; have HI726 := Aside0.mk (hi); have NB726_722 := Aside0.mk (IsS101.ne_blk hi (blk_below (g := gb722) (o := .cells #[.int .i64 0, .int .i64 0, .int .i64 0] 27 (0, 0)) (be BK722) hb2) (by decide)); have NB722_726 := Aside0.mk (Ne.symm (IsS101.ne_blk hi (blk_below (g := gb722) (o := .cells #[.int .i64 0, .int .i64 0, .int .i64 0] 27 (0, 0)) (be BK722) hb2) (by decide))); replace BK722 := Aside0.mk (blk_below (g := gb722) (o := .cells #[.int .i64 0, .int .i64 0, .int .i64 0] 27 (0, 0)) (be BK722) hb2); replace HB := Aside0.mk (hb); (try clear hb); (try clear hb2); (try clear hk); (try clear hi)) | ((with_reducible refine zf 57 rfl ?_); refine g1 (some 17) Try.func57 #[.pointer (some ⟨g726, 0, none⟩)] ?_; (with_reducible refine (spec_l03Spoil.calls k g726 t723 t724 t725 t727 t728 t729 t730 t731 t732 w _ ?side1 ?side2 A3.out).mono ?_); (case side1 => exact is101); (case side2 => exact ib101); rintro e w7 ⟨rfl, hi, hb, hk⟩; refine ⟨_, rfl, ?_⟩; replace BK722 := kb hk BK722 NB722_726; replace HI726 := Aside0.mk (hi); replace HB := Aside0.mk (hb); (try clear hb hk)) | ((with_reducible refine zg 8 rfl ?_); refine z3 8 27 0 0 0 ?_; intro gb733 hg w8 BK733 hb; have GW733 := Aside0.mk ((by rw [hg]; exact (below_size (ib101)) : w.heap.size ≤ gb733)); have GE733 := Aside0.mk ((by rw [hg]; exact (below_size (ib101)) : w.heap.size ≤ gb733)); have NB722_733 := nl hg BK722; have NB726_733 := Aside0.mk ((by rw [hg]; exact Nat.ne_of_lt (IsS101.lt (show IsS101 w _ g726 t723 t731 t732 from by exact is101)) : g726 ≠ gb733)); have NB733_726 := Aside0.mk ((by rw [hg]; exact Nat.ne_of_gt (IsS101.lt (show IsS101 w _ g726 t723 t731 t732 from by exact is101)) : gb733 ≠ g726)); replace BK722 := bb BK722 hb; replace HB := Aside0.mk (below_step (ib101) hb); replace HI726 := Aside0.mk (IsS101.below (is101) hb); clear hb hg; obtain ⟨hnb9, hnc9⟩ := zm NB722_733; have hnb10 := NB733_726.out; have hnc10 := NB726_733.out; obtain ⟨hcz11_0, hcz11_1, hcz11_2, hfz11_0, hfz11_1, hfz11_2⟩ := cq3 BK733))
 (try simp only [Act.put, zq, zr, zt])
 go_cut [27] (fun v27 wc => ∃ (kq : Nat) (x27_3 : Bool) (x727001_3 : Int) (x727002_3 : Int), v27 = .bool x27_3 ∧ Aside0 (spec_DrawHoldsVector.j0 kq t727 x27_3 t723 x727001_3 x727002_3 t728 t729 t730 = some (r1, r2, r3, r4, r5, r6)) ∧ Aside0 (kq ≤ k) ∧ Aside0 (wc.heap[gb722]? = some (.cells #[.int .i64 0, .int .i64 0, .int .i64 0] 27 (0, 0))) ∧ Aside0 (wc.heap[gb733]? = some (.cells #[.int .i64 t728, .int .i64 t729, .int .i64 t730] 27 (0, 0))) ∧ Aside0 (IsS101 w wc g726 t723 x727001_3 x727002_3) ∧ Aside0 (Below w.heap.size w wc))
 case first =>
  have H := HC4.out
  clear HC4
  replace H := zi H
  obtain ⟨t734, A12, H⟩ := H
  try dsimp only at H
  by_cases c13 : t734 = true
  ·subst c13
   rw [if_pos rfl] at H
   replace H := zi H
   obtain ⟨⟨t735, t736, t737⟩, A14, H⟩ := H
   try dsimp only at H
   have H' := Aside0.mk H
   clear H
   obtain ⟨hnb15, hnc15⟩ := zm NB722_733
   have hnb16 := NB733_726.out
   have hnc16 := NB726_733.out
   obtain ⟨hcz17_0, hcz17_1, hcz17_2, hfz17_0, hfz17_1, hfz17_2⟩ := cq3 BK733
   go_wp2_with (first | ((with_reducible refine zf 60 rfl ?_); refine g1 (some 22) Try.func60 #[.int .i64 t727, .agg #[.int .i64 t728, .int .i64 t729, .int .i64 t730]] ?_; (with_reducible refine (spec_l03Is.calls k t727 t728 t729 t730 true _ A12.out).mono ?_); rintro e w18 ⟨rfl, hb⟩; refine ⟨_, rfl, ?_⟩; replace BK722 := Aside0.mk (blk_below (g := gb722) (o := .cells #[.int .i64 0, .int .i64 0, .int .i64 0] 27 (0, 0)) (bp) hb); replace BK733 := Aside0.mk (blk_below (g := gb733) (o := .cells #[.int .i64 t728, .int .i64 t729, .int .i64 t730] 27 (0, 0)) (bp) hb); replace HB := Aside0.mk (below_step (ib101) hb); replace HI726 := Aside0.mk (IsS101.below (show IsS101 w (((w8.setCell ⟨gb733, 0, none⟩ (.int .i64 t728)).setCell ⟨gb733, 1, none⟩ (.int .i64 t729)).setCell ⟨gb733, 2, none⟩ (.int .i64 t730)) g726 t723 t731 t732 from by exact is101) hb); (try clear hb)) | (go_at_call 47; (with_reducible refine (spec_l01Next.calls g726 t723 t731 t732 2 t735 t736 t737 w _ ?side1 ?side2 A14.out).mono ?_); (case side1 => exact is101); (case side2 => exact ib101); rintro e w19 ⟨rfl, hi, hb, hk⟩; replace BK722 := kb hk BK722 NB722_726; replace BK733 := kb hk BK733 NB733_726; replace HI726 := Aside0.mk (hi); replace HB := Aside0.mk (hb); (try clear hb hk)))
   go_meet
   case rel => exact ⟨_, ((t735 == 0)), (t736), (t737), (by first | rfl | (simp; done) | (simp [*]; done)), H', ⟨by first | omega | exact Nat.le_refl _⟩, ⟨be BK722⟩, ⟨be BK733⟩, ⟨by exact is101⟩, ⟨by exact ib101⟩⟩
  ·replace c13 := Bool.eq_false_iff.mpr c13
   subst c13
   have H1 : (spec_DrawHoldsVector.j0 k t727 false t723 t731 t732 t728 t729 t730) = some (r1, r2, r3, r4, r5, r6) := by rw [if_neg (show ¬ (false = true) by decide)] at H; exact H
   clear H
   have H := H1
   clear H1
   have H' := Aside0.mk H
   clear H
   obtain ⟨hnb20, hnc20⟩ := zm NB722_733
   have hnb21 := NB733_726.out
   have hnc21 := NB726_733.out
   obtain ⟨hcz22_0, hcz22_1, hcz22_2, hfz22_0, hfz22_1, hfz22_2⟩ := cq3 BK733
   go_wp2_with (first | ((with_reducible refine zf 60 rfl ?_); refine g1 (some 22) Try.func60 #[.int .i64 t727, .agg #[.int .i64 t728, .int .i64 t729, .int .i64 t730]] ?_; (with_reducible refine (spec_l03Is.calls k t727 t728 t729 t730 false _ A12.out).mono ?_); rintro e w23 ⟨rfl, hb⟩; refine ⟨_, rfl, ?_⟩; replace BK722 := Aside0.mk (blk_below (g := gb722) (o := .cells #[.int .i64 0, .int .i64 0, .int .i64 0] 27 (0, 0)) (bp) hb); replace BK733 := Aside0.mk (blk_below (g := gb733) (o := .cells #[.int .i64 t728, .int .i64 t729, .int .i64 t730] 27 (0, 0)) (bp) hb); replace HB := Aside0.mk (below_step (ib101) hb); replace HI726 := Aside0.mk (IsS101.below (show IsS101 w (((w8.setCell ⟨gb733, 0, none⟩ (.int .i64 t728)).setCell ⟨gb733, 1, none⟩ (.int .i64 t729)).setCell ⟨gb733, 2, none⟩ (.int .i64 t730)) g726 t723 t731 t732 from by exact is101) hb); (try clear hb)))
   go_meet
   case rel => exact ⟨_, (false), (t731), (t732), (by first | rfl | (simp; done) | (simp [*]; done)), H', ⟨by first | omega | exact Nat.le_refl _⟩, ⟨be BK722⟩, ⟨be BK733⟩, ⟨by exact is101⟩, ⟨by exact ib101⟩⟩
 case rest =>
  clear HC4
  obtain ⟨kq, x27_3, x727001_3, x727002_3, rfl, HA, HJ3, BK722, BK733, HI726, HB⟩ := hcut
  cases kq with
  | zero => exact absurd HA.out (by simp [spec_DrawHoldsVector.j0])
  | succ kj3 =>
   have H := HA.out
   clear HA
   simp only [spec_DrawHoldsVector.j0] at H
   have HC24 := Aside0.mk H
   clear H
   go_upto_if 27 with (fail)
   go_cut [] (fun wc => ∃ (kq : Nat) (x723000_23 : Int) (x723001_23 : Int) (x723002_23 : Int) (x727001_23 : Int) (x727002_23 : Int), Aside0 (spec_DrawHoldsVector.j1 kq t727 t723 x727001_23 x727002_23 t728 t729 t730 = some (r1, r2, r3, r4, r5, r6)) ∧ Aside0 (kq ≤ kj3) ∧ Aside0 (wc.heap[gb722]? = some (.cells #[.int .i64 x723000_23, .int .i64 x723001_23, .int .i64 x723002_23] 27 (0, 0))) ∧ Aside0 (wc.heap[gb733]? = some (.cells #[.int .i64 t728, .int .i64 t729, .int .i64 t730] 27 (0, 0))) ∧ Aside0 (IsS101 w wc g726 t723 x727001_23 x727002_23) ∧ Aside0 (Below w.heap.size w wc))
   case first =>
    have H := HC24.out
    clear HC24
    by_cases c25 : x27_3 = true
    ·subst c25
     rw [if_pos rfl] at H
     replace H := zi H
     obtain ⟨⟨t738, t739, t740⟩, A26, H⟩ := H
     try dsimp only at H
     replace H := zi H
     obtain ⟨⟨t741, t742, t743⟩, A27, H⟩ := H
     try dsimp only at H
     replace H := zi H
     obtain ⟨t744, A28, H⟩ := H
     try dsimp only at H
     replace H := zi H
     obtain ⟨t745, A29, H⟩ := H
     try dsimp only at H
     obtain ⟨ji30, hji30⟩ : ∃ j_ : Int, (mx (wrap64 ((wrap64 ((wrap64 (t738 - 2)) * t744)) + (wrap64 ((wrap64 (t741 - 2)) * t729)))) (wrap64 (-(wrap64 ((wrap64 ((wrap64 (t738 - 2)) * t744)) + (wrap64 ((wrap64 (t741 - 2)) * t729))))))) = j_ := ⟨_, rfl⟩
     replace H : (if (mx (mx (ji30) (wrap64 ((wrap64 (t741 - 2)) * t745))) (wrap64 (-(wrap64 ((wrap64 (t741 - 2)) * t745))))) ≤ 1000000 then (some (t727, t728, t729, t730, wrap64 ((wrap64 ((wrap64 (t738 - 2)) * t744)) + (wrap64 ((wrap64 (t741 - 2)) * t729))), wrap64 ((wrap64 (t741 - 2)) * t745))) else (spec_DrawHoldsVector.j1 kj3 t727 t723 t742 t743 t728 t729 t730)) = some (r1, r2, r3, r4, r5, r6) := by first | (rw [hji30] at H; exact H) | (simp only [hji30] at H ⊢; exact H)
     (try rw [hji30] at A26)
     (try rw [hji30] at A27)
     (try rw [hji30] at A28)
     (try rw [hji30] at A29)
     have hji30_ : (if (wrap64 ((wrap64 ((wrap64 (t738 - 2)) * t744)) + (wrap64 ((wrap64 (t741 - 2)) * t729)))) < (wrap64 (-(wrap64 ((wrap64 ((wrap64 (t738 - 2)) * t744)) + (wrap64 ((wrap64 (t741 - 2)) * t729)))))) then (wrap64 (-(wrap64 ((wrap64 ((wrap64 (t738 - 2)) * t744)) + (wrap64 ((wrap64 (t741 - 2)) * t729)))))) else (wrap64 ((wrap64 ((wrap64 (t738 - 2)) * t744)) + (wrap64 ((wrap64 (t741 - 2)) * t729))))) = ji30 := hji30
     obtain ⟨ji31, hji31⟩ : ∃ j_ : Int, (mx (ji30) (wrap64 ((wrap64 (t741 - 2)) * t745))) = j_ := ⟨_, rfl⟩
     replace H : (if (mx (ji31) (wrap64 (-(wrap64 ((wrap64 (t741 - 2)) * t745))))) ≤ 1000000 then (some (t727, t728, t729, t730, wrap64 ((wrap64 ((wrap64 (t738 - 2)) * t744)) + (wrap64 ((wrap64 (t741 - 2)) * t729))), wrap64 ((wrap64 (t741 - 2)) * t745))) else (spec_DrawHoldsVector.j1 kj3 t727 t723 t742 t743 t728 t729 t730)) = some (r1, r2, r3, r4, r5, r6) := by first | (rw [hji31] at H; exact H) | (simp only [hji31] at H ⊢; exact H)
     (try rw [hji31] at A26)
     (try rw [hji31] at A27)
     (try rw [hji31] at A28)
     (try rw [hji31] at A29)
     have hji31_ : (if (ji30) < (wrap64 ((wrap64 (t741 - 2)) * t745)) then (wrap64 ((wrap64 (t741 - 2)) * t745)) else (ji30)) = ji31 := hji31
     obtain ⟨ji32, hji32⟩ : ∃ j_ : Int, (mx (ji31) (wrap64 (-(wrap64 ((wrap64 (t741 - 2)) * t745))))) = j_ := ⟨_, rfl⟩
     replace H : (if (ji32) ≤ 1000000 then (some (t727, t728, t729, t730, wrap64 ((wrap64 ((wrap64 (t738 - 2)) * t744)) + (wrap64 ((wrap64 (t741 - 2)) * t729))), wrap64 ((wrap64 (t741 - 2)) * t745))) else (spec_DrawHoldsVector.j1 kj3 t727 t723 t742 t743 t728 t729 t730)) = some (r1, r2, r3, r4, r5, r6) := by first | (rw [hji32] at H; exact H) | (simp only [hji32] at H ⊢; exact H)
     (try rw [hji32] at A26)
     (try rw [hji32] at A27)
     (try rw [hji32] at A28)
     (try rw [hji32] at A29)
     have hji32_ : (if (ji31) < (wrap64 (-(wrap64 ((wrap64 (t741 - 2)) * t745)))) then (wrap64 (-(wrap64 ((wrap64 (t741 - 2)) * t745)))) else (ji31)) = ji32 := hji32
     replace H := ii H
     rcases H with ⟨c33, H⟩ | ⟨c33, H⟩
     ·have c33b0 := decide_eq_true c33
      clear c33
      (first | rw [c33b0] | (simp only [i64_w, i32_w]; rw [c33b0]) | skip)
      simp only [Option.some.injEq, Prod.mk.injEq] at H
      obtain ⟨rfl, rfl, rfl, rfl, rfl, rfl⟩ := H
      try go_wp2_with (first | ((with_reducible refine zf 47 rfl ?_); refine g1 (some 29) Try.func47 #[.pointer (some ⟨g726, 0, none⟩), .int .i64 5] ?_; (with_reducible refine (spec_l01Next.calls g726 t723 x727001_3 x727002_3 5 t738 t739 t740 w _ ?side1 ?side2 A26.out).mono ?_); (case side1 => exact is101); (case side2 => exact ib101); rintro e w34 ⟨rfl, hi, hb, hk⟩; refine ⟨_, rfl, ?_⟩; replace BK722 := kb hk BK722 NB722_726; replace BK733 := kb hk BK733 NB733_726; replace HI726 := Aside0.mk (hi); replace HB := Aside0.mk (hb); (try clear hb hk)) | ((with_reducible refine zf 47 rfl ?_); refine g1 (some 32) Try.func47 #[.pointer (some ⟨g726, 0, none⟩), .int .i64 5] ?_; (with_reducible refine (spec_l01Next.calls g726 t723 t739 t740 5 t741 t742 t743 w _ ?side1 ?side2 A27.out).mono ?_); (case side1 => exact is101); (case side2 => exact ib101); rintro e w35 ⟨rfl, hi, hb, hk⟩; refine ⟨_, rfl, ?_⟩; replace BK722 := kb hk BK722 NB722_726; replace BK733 := kb hk BK733 NB733_726; replace HI726 := Aside0.mk (hi); replace HB := Aside0.mk (hb); (try clear hb hk)))
      replace BK722 := Aside0.mk (blk_drew BK722.out)
      replace BK733 := Aside0.mk (blk_drew BK733.out)
      replace HI726 := Aside0.mk (IsS101.drew HI726.out)
      replace HB := Aside0.mk (below_drew1 HB.out)
      refine sw 19 (fun w' => w'.cell? ⟨gb733, 0, none⟩ = some (.int .i64 t728) ∧ w'.cell? ⟨gb733, 1, none⟩ = some (.int .i64 t729) ∧ w'.cell? ⟨gb733, 2, none⟩ = some (.int .i64 t730)) spec_DrawHoldsVector.tab5 spec_DrawHoldsVector.bits5 (e3 BK733) (fun hHeld HT_ HW_ => ?_)
      generalize w35.drew = w36 at BK722 BK733 HI726 HB hHeld ⊢
      refine pu 0 (some 34) (tA 19 1) HT_ ?_
      refine pu 1 (some 35) (tA 19 3) HT_ ?_
      refine pu 2 (some 36) (tA 19 7) HT_ ?_
      refine pu 6 (some 40) (tA 19 71) HT_ ?_
      refine pu 7 (some 41) (tA 19 199) HT_ ?_
      refine pu 11 (some 45) (tA 19 2247) HT_ ?_
      refine pu 12 (some 46) (tA 19 6343) HT_ ?_
      refine pu 13 (some 47) (tA 19 14535) HT_ ?_
      refine tk3 3 (some 37) (tA 19 14543) HT_ HW_ hHeld ?_
      refine tk3 8 (some 42) (tA 19 14799) HT_ HW_ hHeld ?_
      refine pu 9 (some 43) (tA 19 15311) HT_ ?_
      refine tk3 14 (some 48) (tA 19 31695) HT_ HW_ hHeld ?_
      refine o1 4 (some 38) (tA 19 31711) HT_ (fun K hK => ?_)
      refine gs Try.func34 #[.int .i64 t727, .int .i64 t728] ?_
      with_reducible refine (spec_l01Power.calls kj3 t727 t728 t744 _ A28.out).mono ?_
      rintro e w' ⟨rfl, ⟨nd, rfl⟩⟩
      refine ⟨_, rfl, ?_⟩
      refine hK.out _ _ (e3 BK733) (fun hHeld => ?_)
      clear hK K
      refine nm (some 38) ?_
      refine pu 5 (some 39) (tA 19 31743) HT_ ?_
      refine pu 10 (some 44) (tA 19 32767) HT_ ?_
      refine o1 15 (some 49) (tA 19 65535) HT_ (fun K hK => ?_)
      refine gs Try.func34 #[.int .i64 t727, .int .i64 t730] ?_
      with_reducible refine (spec_l01Power.calls kj3 t727 t730 t745 _ A29.out).mono ?_
      rintro e w' ⟨rfl, ⟨nd, rfl⟩⟩
      refine ⟨_, rfl, ?_⟩
      refine hK.out _ _ (e3 BK733) (fun hHeld => ?_)
      clear hK K
      refine nm (some 49) ?_
      refine pu 16 (some 50) (tA 19 131071) HT_ ?_
      refine pu 17 (some 11) (tA 19 262143) HT_ ?_
      refine pu 18 (some 12) (tA 19 524287) HT_ ?_
      refine done_ (done_of HT_.out (by kernel_rfl)) ?_
      try go_wp2
      (try (rw [drewN_self w36]; generalize hq_ : World.drewN w36 _ = w36; have n0_ : Aside0 (w36.heap[gb722]? = some (.cells #[.int .i64 0, .int .i64 0, .int .i64 0] 27 (0, 0))) := ⟨by rw [← hq_]; exact (be BK722)⟩; have n1_ : Aside0 (w36.heap[gb733]? = some (.cells #[.int .i64 t728, .int .i64 t729, .int .i64 t730] 27 (0, 0))) := ⟨by rw [← hq_]; exact (be BK733)⟩; have n2_ : Aside0 (IsS101 w w36 g726 t723 t742 t743) := ⟨by rw [← hq_]; exact (is101)⟩; have n3_ : Aside0 (Below w.heap.size w w36) := ⟨by rw [← hq_]; exact (ib101)⟩; clear BK722 BK733 HI726 HB hq_; have BK722 := n0_; have BK733 := n1_; have HI726 := n2_; have HB := n3_; clear n0_ n1_ n2_ n3_))
      replace BK722 := Aside0.mk (blk_drew BK722.out)
      replace BK733 := Aside0.mk (blk_drew BK733.out)
      replace HI726 := Aside0.mk (IsS101.drew HI726.out)
      replace HB := Aside0.mk (below_drew1 HB.out)
      refine sw 8 (fun w' => w'.cell? ⟨gb733, 0, none⟩ = some (.int .i64 t728) ∧ w'.cell? ⟨gb733, 1, none⟩ = some (.int .i64 t729) ∧ w'.cell? ⟨gb733, 2, none⟩ = some (.int .i64 t730)) spec_DrawHoldsVector.tab7 spec_DrawHoldsVector.bits7 (e3 BK733) (fun hHeld HT_ HW_ => ?_)
      generalize w36.drew = w37 at BK722 BK733 HI726 HB hHeld ⊢
      refine pu 0 (some 59) (tA 8 1) HT_ ?_
      refine pu 2 (some 61) (tA 8 5) HT_ ?_
      refine pu 3 (some 62) (tA 8 13) HT_ ?_
      refine pu 4 (some 2) (tA 8 29) HT_ ?_
      refine tk3 1 (some 60) (tA 8 31) HT_ HW_ hHeld ?_
      refine o1 5 none (tA 8 63) HT_ (fun K hK => ?_)
      have hs38 : w37.cell? ⟨gb722, 0, none⟩ = some (.int .i64 0) := (blk_cell BK722.out 0).trans rfl
      have hfs38 := blk_frozen BK722.out 0
      obtain ⟨hns38_1, hms38_1⟩ := zm NB722_733
      have hs39 : w37.cell? ⟨gb722, 1, none⟩ = some (.int .i64 0) := (blk_cell BK722.out 1).trans rfl
      have hfs39 := blk_frozen BK722.out 1
      obtain ⟨hns39_1, hms39_1⟩ := zm NB722_733
      have hs40 : w37.cell? ⟨gb722, 2, none⟩ = some (.int .i64 0) := (blk_cell BK722.out 2).trans rfl
      have hfs40 := blk_frozen BK722.out 2
      obtain ⟨hns40_1, hms40_1⟩ := zm NB722_733
      refine skip_ (w1 := ?_) (by rfl) rfl ?_ ?_
      rotate_left
      ·go_simp
       rfl
      refine hK.out _ _ (m3 hHeld (fun e => cs gb722 NB722_733 (cs gb722 NB722_733 (cs gb722 NB722_733 e)))) (fun hHeld => ?_)
      clear hK K
      refine pu 6 (some 4) (tA 8 127) HT_ ?_
      refine pu 7 (some 5) (tA 8 255) HT_ ?_
      refine done_ (done_of HT_.out (by kernel_rfl)) ?_
      try go_wp2
      refine bodyPost_ret (results_list (rs := [.tmp 2, .cell 3 27, .tmp 4, .tmp 5]) rfl (by simp) (.tmp (.cell gb722 27 #[.int .i64 t728, .int .i64 t729, .int .i64 t730] (0, 0) _ rfl (bp) Try.underlying27 rfl (by kernel_rfl) (.tmp (.tmp .nil))))) rfl ?_
      exact ⟨by first | rfl | (simp [errW_none, errW_some] <;> rfl) | (simp only [← hji30, ← hji31, ← hji32]; first | rfl | (simp [errW_none, errW_some] <;> rfl)) | (simp [*, errW_none, errW_some] <;> rfl), by exact ib101⟩
     ·have c33b0 := decide_eq_false c33
      clear c33
      (first | rw [c33b0] | (simp only [i64_w, i32_w]; rw [c33b0]) | skip)
      have H' := Aside0.mk H
      clear H
      try go_wp2_with (first | ((with_reducible refine zf 47 rfl ?_); refine g1 (some 29) Try.func47 #[.pointer (some ⟨g726, 0, none⟩), .int .i64 5] ?_; (with_reducible refine (spec_l01Next.calls g726 t723 x727001_3 x727002_3 5 t738 t739 t740 w _ ?side1 ?side2 A26.out).mono ?_); (case side1 => exact is101); (case side2 => exact ib101); rintro e w41 ⟨rfl, hi, hb, hk⟩; refine ⟨_, rfl, ?_⟩; replace BK722 := kb hk BK722 NB722_726; replace BK733 := kb hk BK733 NB733_726; replace HI726 := Aside0.mk (hi); replace HB := Aside0.mk (hb); (try clear hb hk)) | ((with_reducible refine zf 47 rfl ?_); refine g1 (some 32) Try.func47 #[.pointer (some ⟨g726, 0, none⟩), .int .i64 5] ?_; (with_reducible refine (spec_l01Next.calls g726 t723 t739 t740 5 t741 t742 t743 w _ ?side1 ?side2 A27.out).mono ?_); (case side1 => exact is101); (case side2 => exact ib101); rintro e w42 ⟨rfl, hi, hb, hk⟩; refine ⟨_, rfl, ?_⟩; replace BK722 := kb hk BK722 NB722_726; replace BK733 := kb hk BK733 NB733_726; replace HI726 := Aside0.mk (hi); replace HB := Aside0.mk (hb); (try clear hb hk)))
      replace BK722 := Aside0.mk (blk_drew BK722.out)
      replace BK733 := Aside0.mk (blk_drew BK733.out)
      replace HI726 := Aside0.mk (IsS101.drew HI726.out)
      replace HB := Aside0.mk (below_drew1 HB.out)
      refine sw 19 (fun w' => w'.cell? ⟨gb733, 0, none⟩ = some (.int .i64 t728) ∧ w'.cell? ⟨gb733, 1, none⟩ = some (.int .i64 t729) ∧ w'.cell? ⟨gb733, 2, none⟩ = some (.int .i64 t730)) spec_DrawHoldsVector.tab5 spec_DrawHoldsVector.bits5 (e3 BK733) (fun hHeld HT_ HW_ => ?_)
      generalize w42.drew = w43 at BK722 BK733 HI726 HB hHeld ⊢
      refine pu 0 (some 34) (tA 19 1) HT_ ?_
      refine pu 1 (some 35) (tA 19 3) HT_ ?_
      refine pu 2 (some 36) (tA 19 7) HT_ ?_
      refine pu 6 (some 40) (tA 19 71) HT_ ?_
      refine pu 7 (some 41) (tA 19 199) HT_ ?_
      refine pu 11 (some 45) (tA 19 2247) HT_ ?_
      refine pu 12 (some 46) (tA 19 6343) HT_ ?_
      refine pu 13 (some 47) (tA 19 14535) HT_ ?_
      refine tk3 3 (some 37) (tA 19 14543) HT_ HW_ hHeld ?_
      refine tk3 8 (some 42) (tA 19 14799) HT_ HW_ hHeld ?_
      refine pu 9 (some 43) (tA 19 15311) HT_ ?_
      refine tk3 14 (some 48) (tA 19 31695) HT_ HW_ hHeld ?_
      refine o1 4 (some 38) (tA 19 31711) HT_ (fun K hK => ?_)
      refine gs Try.func34 #[.int .i64 t727, .int .i64 t728] ?_
      with_reducible refine (spec_l01Power.calls kj3 t727 t728 t744 _ A28.out).mono ?_
      rintro e w' ⟨rfl, ⟨nd, rfl⟩⟩
      refine ⟨_, rfl, ?_⟩
      refine hK.out _ _ (e3 BK733) (fun hHeld => ?_)
      clear hK K
      refine nm (some 38) ?_
      refine pu 5 (some 39) (tA 19 31743) HT_ ?_
      refine pu 10 (some 44) (tA 19 32767) HT_ ?_
      refine o1 15 (some 49) (tA 19 65535) HT_ (fun K hK => ?_)
      refine gs Try.func34 #[.int .i64 t727, .int .i64 t730] ?_
      with_reducible refine (spec_l01Power.calls kj3 t727 t730 t745 _ A29.out).mono ?_
      rintro e w' ⟨rfl, ⟨nd, rfl⟩⟩
      refine ⟨_, rfl, ?_⟩
      refine hK.out _ _ (e3 BK733) (fun hHeld => ?_)
      clear hK K
      refine nm (some 49) ?_
      refine pu 16 (some 50) (tA 19 131071) HT_ ?_
      refine pu 17 (some 11) (tA 19 262143) HT_ ?_
      refine pu 18 (some 12) (tA 19 524287) HT_ ?_
      refine done_ (done_of HT_.out (by kernel_rfl)) ?_
      try go_wp2
      go_meet
      case rel => exact ⟨_, (0), (0), (0), (t742), (t743), H', ⟨by have := HJ3.out; first | omega | exact Nat.le_refl _⟩, ⟨be BK722⟩, ⟨be BK733⟩, ⟨by exact is101⟩, ⟨by exact ib101⟩⟩
    ·replace c25 := Bool.eq_false_iff.mpr c25
     subst c25
     have H1 : (spec_DrawHoldsVector.j1 kj3 t727 t723 x727001_3 x727002_3 t728 t729 t730) = some (r1, r2, r3, r4, r5, r6) := by rw [if_neg (show ¬ (false = true) by decide)] at H; exact H
     clear H
     have H := H1
     clear H1
     have H' := Aside0.mk H
     clear H
     go_wp2
     go_meet
     case rel => exact ⟨_, (0), (0), (0), (x727001_3), (x727002_3), H', ⟨by have := HJ3.out; first | omega | exact Nat.le_refl _⟩, ⟨be BK722⟩, ⟨be BK733⟩, ⟨by exact is101⟩, ⟨by exact ib101⟩⟩
   case rest =>
    clear HC24
    obtain ⟨kq, x723000_23, x723001_23, x723002_23, x727001_23, x727002_23, HA, HJ23, BK722, BK733, HI726, HB⟩ := hcut
    cases kq with
    | zero => exact absurd HA.out (by simp [spec_DrawHoldsVector.j1])
    | succ kj23 =>
     have H := HA.out
     clear HA
     simp only [spec_DrawHoldsVector.j1] at H
     replace H := zi H
     obtain ⟨⟨t746, t747, t748⟩, A44, H⟩ := H
     try dsimp only at H
     replace H := zi H
     obtain ⟨⟨t749, t750, t751⟩, A45, H⟩ := H
     try dsimp only at H
     obtain ⟨y752, hy752⟩ : ∃ y_ : List Int, y_ = (([wrap64 (t746 - 15), wrap64 (t749 - 1000000), 1000001] : List Int)) := ⟨_, rfl⟩
     replace H : ((spec_l01Pick.f t723 t750 t751 y752).bind fun bt755 => ((spec_l01Next.f t723 bt755.2.1 bt755.2.2 30).bind fun bt758 => ((spec_l01Next.f t723 bt758.2.1 bt758.2.2 2000001).bind fun bt761 => ((spec_l01Pick.f t723 bt761.2.1 bt761.2.2 (([0, wrap64 (bt758.1 - 15), wrap64 (bt761.1 - 1000000)] : List Int))).bind fun bt767 => (some (t727, t728, t729, t730, bt755.1, bt767.1)))))) = some (r1, r2, r3, r4, r5, r6) := by first | exact hy752 ▸ H | exact H
     have Ny752 := Aside0.mk hy752
     clear hy752
     replace H := zi H
     obtain ⟨⟨t755, t756, t757⟩, A46, H⟩ := H
     try dsimp only at H
     replace H := zi H
     obtain ⟨⟨t758, t759, t760⟩, A47, H⟩ := H
     try dsimp only at H
     replace H := zi H
     obtain ⟨⟨t761, t762, t763⟩, A48, H⟩ := H
     try dsimp only at H
     obtain ⟨y764, hy764⟩ : ∃ y_ : List Int, y_ = (([0, wrap64 (t758 - 15), wrap64 (t761 - 1000000)] : List Int)) := ⟨_, rfl⟩
     replace H : ((spec_l01Pick.f t723 t762 t763 y764).bind fun bt767 => (some (t727, t728, t729, t730, t755, bt767.1))) = some (r1, r2, r3, r4, r5, r6) := by first | exact hy764 ▸ H | exact H
     have Ny764 := Aside0.mk hy764
     clear hy764
     replace H := zi H
     obtain ⟨⟨t767, t768, t769⟩, A49, H⟩ := H
     try dsimp only at H
     simp only [Option.some.injEq, Prod.mk.injEq] at H
     obtain ⟨rfl, rfl, rfl, rfl, rfl, rfl⟩ := H
     try go_wp2
     replace BK722 := Aside0.mk (blk_drew BK722.out)
     replace BK733 := Aside0.mk (blk_drew BK733.out)
     replace HI726 := Aside0.mk (IsS101.drew HI726.out)
     replace HB := Aside0.mk (below_drew1 HB.out)
     refine sw 24 (fun w' => w'.cell? ⟨gb733, 0, none⟩ = some (.int .i64 t728) ∧ w'.cell? ⟨gb733, 1, none⟩ = some (.int .i64 t729) ∧ w'.cell? ⟨gb733, 2, none⟩ = some (.int .i64 t730)) spec_DrawHoldsVector.tab8 spec_DrawHoldsVector.bits8 (e3 BK733) (fun hHeld HT_ HW_ => ?_)
     generalize wc.drew = w50 at BK722 BK733 HI726 HB hHeld ⊢
     refine pu 0 (some 63) (tA 24 1) HT_ ?_
     refine pu 2 (some 65) (tA 24 5) HT_ ?_
     refine pu 3 (some 66) (tA 24 13) HT_ ?_
     refine pu 6 (some 69) (tA 24 77) HT_ ?_
     refine pu 11 (some 74) (tA 24 2125) HT_ ?_
     refine pu 12 (some 75) (tA 24 6221) HT_ ?_
     refine pu 15 (some 78) (tA 24 38989) HT_ ?_
     refine tk3 1 (some 64) (tA 24 38991) HT_ HW_ hHeld ?_
     refine o1 4 (some 67) (tA 24 39007) HT_ (fun K hK => ?_)
     refine gs Try.func47 #[.pointer (some ⟨g726, 0, none⟩), .int .i64 30] ?_
     with_reducible refine (spec_l01Next.calls g726 t723 x727001_23 x727002_23 30 t746 t747 t748 w _ ?side1 ?side2 A44.out).mono ?_
     (case side1 => exact is101)
     (case side2 => exact ib101)
     rintro e w51 ⟨rfl, hi, hb, hk⟩
     refine ⟨_, rfl, ?_⟩
     replace BK722 := kb hk BK722 NB722_726
     replace BK733 := kb hk BK733 NB733_726
     replace HI726 := Aside0.mk (hi)
     replace HB := Aside0.mk (hb)
     (try clear hb)
     (try clear hb2)
     (try clear hk)
     (try clear hi)
     refine hK.out _ _ (e3 BK733) (fun hHeld => ?_)
     clear hK K
     refine nm (some 67) ?_
     refine pu 5 (some 68) (tA 24 39039) HT_ ?_
     refine o1 7 (some 70) (tA 24 39167) HT_ (fun K hK => ?_)
     refine gs Try.func47 #[.pointer (some ⟨g726, 0, none⟩), .int .i64 2000001] ?_
     with_reducible refine (spec_l01Next.calls g726 t723 t747 t748 2000001 t749 t750 t751 w _ ?side1 ?side2 A45.out).mono ?_
     (case side1 => exact is101)
     (case side2 => exact ib101)
     rintro e w52 ⟨rfl, hi, hb, hk⟩
     refine ⟨_, rfl, ?_⟩
     replace BK722 := kb hk BK722 NB722_726
     replace BK733 := kb hk BK733 NB733_726
     replace HI726 := Aside0.mk (hi)
     replace HB := Aside0.mk (hb)
     (try clear hb)
     (try clear hb2)
     (try clear hk)
     (try clear hi)
     refine hK.out _ _ (e3 BK733) (fun hHeld => ?_)
     clear hK K
     refine nm (some 70) ?_
     refine pu 8 (some 71) (tA 24 39423) HT_ ?_
     refine o1 9 (some 72) (tA 24 39935) HT_ (fun K hK => ?_)
     refine Kd.R_lit_step (Kd.int .i64) _ 2 ?hg (N := 72) ?hd (xs := ([wrap64 (t746 - 15), wrap64 (t749 - 1000000), 1000001] : List Int)) (inner := [.int .i64 (wrap64 (t746 - 15)), .int .i64 (wrap64 (t749 - 1000000)), .int .i64 1000001]) (ok := fun _ => True) (okp := fun _ => True) ?hr ?hp (fun _ hk => hk) trivial (Below.refl _ _) (Nat.le_refl _) (by simp) ?_; (case hd => rfl); (case hg => rfl); (case hr => first | (go_simp; done) | (go_simp; rfl)); (case hp => exact (Reps.one (show Kd.M (Kd.int .i64) _ _ _ (wrap64 (t746 - 15)) [.int .i64 (wrap64 (t746 - 15))] from rfl) (Reps.one (show Kd.M (Kd.int .i64) _ _ _ (wrap64 (t749 - 1000000)) [.int .i64 (wrap64 (t749 - 1000000))] from rfl) (Reps.one (show Kd.M (Kd.int .i64) _ _ _ 1000001 [.int .i64 1000001] from rfl) (Reps.none _ _)))))
     intro v753 w53 ho54 hb hg_ hnew_
     clear hg_ hnew_
     (first | rw [← Ny752.out] at ho54 | (simp only [Int.reduceToNat] at ho54; rw [← Ny752.out] at ho54))
     have HO754 := Aside0.mk (Kd.R_lower ho54 (below_size (ib101)))
     replace BK722 := bb BK722 hb
     replace BK733 := bb BK733 hb
     replace HB := Aside0.mk (below_step (ib101) hb)
     replace HI726 := Aside0.mk (IsS101.below (is101) hb)
     clear hb ho54
     obtain ⟨Ao55, co55, eo55⟩ := Kd.R_slice HO754.out
     (first | subst eo55 | (injection eo55 with f1_ f2_ f3_; have f4_ := f1_.symm; have f5_ := f3_.symm; clear f1_ f2_ f3_; subst f4_; subst f5_))
     refine hK.out _ _ (e3 BK733) (fun hHeld => ?_)
     clear hK K
     refine nm (some 72) ?_
     refine o1 10 (some 73) (tA 24 40959) HT_ (fun K hK => ?_)
     refine gs Try.func46 #[.pointer (some ⟨g726, 0, none⟩), .slice Ao55 y752.length co55] ?_
     with_reducible refine (spec_l01Pick.calls g726 t723 t750 t751 _ _ y752 t755 t756 t757 w _ ?side1 ?side2 ?side3 ?side4 ?side5 A46.out).mono ?_
     (case side1 => exact is101)
     (case side2 => exact ib101)
     (case side3 => repeat (first | exact (Kd.R_reads' HO754.out).2.2 | (with_reducible refine Kd.C_alloc ?_ _) | (with_reducible refine Kd.C_drewN ?_ _) | (with_reducible refine Kd.C_drew ?_)))
     (case side4 => exact (Kd.R_reads' HO754.out).2.1)
     (case side5 => exact far_slice (IsS101.own_ne HI726.out HO754.out (by decide)))
     rintro e w56 ⟨rfl, hi, hb, hk⟩
     refine ⟨_, rfl, ?_⟩
     replace BK722 := kb hk BK722 NB722_726
     replace BK733 := kb hk BK733 NB733_726
     replace HO754 := Aside0.mk (Kd.R_mono (Kd.R_keep (IsS101.apart (show IsS101 w _ g726 t723 t750 t751 from by exact is101) (by (with_reducible repeat (first | apply Kd.R_alloc | apply Kd.R_drewN | apply Kd.R_drew)); exact HO754.out) (by decide)) hk (fun _ h => h.2)) (fun _ h => h.1))
     replace HI726 := Aside0.mk (hi)
     replace HB := Aside0.mk (hb)
     (try clear hb)
     (try clear hb2)
     (try clear hk)
     (try clear hi)
     refine hK.out _ _ (e3 BK733) (fun hHeld => ?_)
     clear hK K
     refine nm (some 73) ?_
     refine o1 13 (some 76) (tA 24 49151) HT_ (fun K hK => ?_)
     refine gs Try.func47 #[.pointer (some ⟨g726, 0, none⟩), .int .i64 30] ?_
     with_reducible refine (spec_l01Next.calls g726 t723 t756 t757 30 t758 t759 t760 w _ ?side1 ?side2 A47.out).mono ?_
     (case side1 => exact is101)
     (case side2 => exact ib101)
     rintro e w57 ⟨rfl, hi, hb, hk⟩
     refine ⟨_, rfl, ?_⟩
     replace BK722 := kb hk BK722 NB722_726
     replace BK733 := kb hk BK733 NB733_726
     replace HO754 := Aside0.mk (Kd.R_mono (Kd.R_keep (IsS101.apart (show IsS101 w _ g726 t723 t756 t757 from by exact is101) (by (with_reducible repeat (first | apply Kd.R_alloc | apply Kd.R_drewN | apply Kd.R_drew)); exact HO754.out) (by decide)) hk (fun _ h => h.2)) (fun _ h => h.1))
     replace HI726 := Aside0.mk (hi)
     replace HB := Aside0.mk (hb)
     (try clear hb)
     (try clear hb2)
     (try clear hk)
     (try clear hi)
     refine hK.out _ _ (e3 BK733) (fun hHeld => ?_)
     clear hK K
     refine nm (some 76) ?_
     refine pu 14 (some 77) (tA 24 65535) HT_ ?_
     refine o1 16 (some 79) (tA 24 131071) HT_ (fun K hK => ?_)
     refine gs Try.func47 #[.pointer (some ⟨g726, 0, none⟩), .int .i64 2000001] ?_
     with_reducible refine (spec_l01Next.calls g726 t723 t759 t760 2000001 t761 t762 t763 w _ ?side1 ?side2 A48.out).mono ?_
     (case side1 => exact is101)
     (case side2 => exact ib101)
     rintro e w58 ⟨rfl, hi, hb, hk⟩
     refine ⟨_, rfl, ?_⟩
     replace BK722 := kb hk BK722 NB722_726
     replace BK733 := kb hk BK733 NB733_726
     replace HO754 := Aside0.mk (Kd.R_mono (Kd.R_keep (IsS101.apart (show IsS101 w _ g726 t723 t759 t760 from by exact is101) (by (with_reducible repeat (first | apply Kd.R_alloc | apply Kd.R_drewN | apply Kd.R_drew)); exact HO754.out) (by decide)) hk (fun _ h => h.2)) (fun _ h => h.1))
     replace HI726 := Aside0.mk (hi)
     replace HB := Aside0.mk (hb)
     (try clear hb)
     (try clear hb2)
     (try clear hk)
     (try clear hi)
     refine hK.out _ _ (e3 BK733) (fun hHeld => ?_)
     clear hK K
     refine nm (some 79) ?_
     refine pu 17 (some 80) (tA 24 262143) HT_ ?_
     refine o1 18 (some 81) (tA 24 524287) HT_ (fun K hK => ?_)
     refine Kd.R_lit_step (Kd.int .i64) _ 2 ?hg (N := 81) ?hd (xs := ([0, wrap64 (t758 - 15), wrap64 (t761 - 1000000)] : List Int)) (inner := [.int .i64 0, .int .i64 (wrap64 (t758 - 15)), .int .i64 (wrap64 (t761 - 1000000))]) (ok := fun _ => True) (okp := fun _ => True) ?hr ?hp (fun _ hk => hk) trivial (Below.refl _ _) (Nat.le_refl _) (by simp) ?_; (case hd => rfl); (case hg => rfl); (case hr => first | (go_simp; done) | (go_simp; rfl)); (case hp => exact (Reps.one (show Kd.M (Kd.int .i64) _ _ _ 0 [.int .i64 0] from rfl) (Reps.one (show Kd.M (Kd.int .i64) _ _ _ (wrap64 (t758 - 15)) [.int .i64 (wrap64 (t758 - 15))] from rfl) (Reps.one (show Kd.M (Kd.int .i64) _ _ _ (wrap64 (t761 - 1000000)) [.int .i64 (wrap64 (t761 - 1000000))] from rfl) (Reps.none _ _)))))
     intro v765 w59 ho60 hb hg_ hnew_
     clear hg_ hnew_
     (first | rw [← Ny764.out] at ho60 | (simp only [Int.reduceToNat] at ho60; rw [← Ny764.out] at ho60))
     have HO766 := Aside0.mk (Kd.R_lower (Kd.R_new' ho60 (Kd.R_lt (by (with_reducible repeat (first | apply Kd.R_alloc | apply Kd.R_drewN | apply Kd.R_drew)); exact HO754.out))) (below_size (ib101)))
     replace HO754 := Aside0.mk (Kd.R_elder' (by (with_reducible repeat (first | apply Kd.R_alloc | apply Kd.R_drewN | apply Kd.R_drew)); exact HO754.out) (Kd.R_base ho60) hb)
     replace BK722 := bb BK722 hb
     replace BK733 := bb BK733 hb
     replace HB := Aside0.mk (below_step (ib101) hb)
     replace HI726 := Aside0.mk (IsS101.below (is101) hb)
     clear hb ho60
     obtain ⟨Ao61, co61, eo61⟩ := Kd.R_slice HO766.out
     (first | subst eo61 | (injection eo61 with f1_ f2_ f3_; have f4_ := f1_.symm; have f5_ := f3_.symm; clear f1_ f2_ f3_; subst f4_; subst f5_))
     refine hK.out _ _ (e3 BK733) (fun hHeld => ?_)
     clear hK K
     refine nm (some 81) ?_
     refine o1 19 (some 82) (tA 24 1048575) HT_ (fun K hK => ?_)
     refine gs Try.func46 #[.pointer (some ⟨g726, 0, none⟩), .slice Ao61 y764.length co61] ?_
     with_reducible refine (spec_l01Pick.calls g726 t723 t762 t763 _ _ y764 t767 t768 t769 w _ ?side1 ?side2 ?side3 ?side4 ?side5 A49.out).mono ?_
     (case side1 => exact is101)
     (case side2 => exact ib101)
     (case side3 => repeat (first | exact (Kd.R_reads' HO766.out).2.2 | (with_reducible refine Kd.C_alloc ?_ _) | (with_reducible refine Kd.C_drewN ?_ _) | (with_reducible refine Kd.C_drew ?_)))
     (case side4 => exact (Kd.R_reads' HO766.out).2.1)
     (case side5 => exact far_slice (IsS101.own_ne HI726.out HO766.out (by decide)))
     rintro e w62 ⟨rfl, hi, hb, hk⟩
     refine ⟨_, rfl, ?_⟩
     replace BK722 := kb hk BK722 NB722_726
     replace BK733 := kb hk BK733 NB733_726
     replace HO754 := Aside0.mk (Kd.R_mono (Kd.R_keep (IsS101.apart (show IsS101 w _ g726 t723 t762 t763 from by exact is101) (by (with_reducible repeat (first | apply Kd.R_alloc | apply Kd.R_drewN | apply Kd.R_drew)); exact HO754.out) (by decide)) hk (fun _ h => h.2)) (fun _ h => h.1))
     replace HO766 := Aside0.mk (Kd.R_mono (Kd.R_keep (IsS101.apart (show IsS101 w _ g726 t723 t762 t763 from by exact is101) (by (with_reducible repeat (first | apply Kd.R_alloc | apply Kd.R_drewN | apply Kd.R_drew)); exact HO766.out) (by decide)) hk (fun _ h => h.2)) (fun _ h => h.1))
     replace HI726 := Aside0.mk (hi)
     replace HB := Aside0.mk (hb)
     (try clear hb)
     (try clear hb2)
     (try clear hk)
     (try clear hi)
     refine hK.out _ _ (e3 BK733) (fun hHeld => ?_)
     clear hK K
     refine nm (some 82) ?_
     refine pu 20 (some 2) (tA 24 2097151) HT_ ?_
     refine o1 21 none (tA 24 4194303) HT_ (fun K hK => ?_)
     have hs63 : w62.cell? ⟨gb722, 0, none⟩ = some (.int .i64 x723000_23) := (blk_cell BK722.out 0).trans rfl
     have hfs63 := blk_frozen BK722.out 0
     obtain ⟨hns63_1, hms63_1⟩ := zm NB722_733
     have hs64 : w62.cell? ⟨gb722, 1, none⟩ = some (.int .i64 x723001_23) := (blk_cell BK722.out 1).trans rfl
     have hfs64 := blk_frozen BK722.out 1
     obtain ⟨hns64_1, hms64_1⟩ := zm NB722_733
     have hs65 : w62.cell? ⟨gb722, 2, none⟩ = some (.int .i64 x723002_23) := (blk_cell BK722.out 2).trans rfl
     have hfs65 := blk_frozen BK722.out 2
     obtain ⟨hns65_1, hms65_1⟩ := zm NB722_733
     refine skip_ (w1 := ?_) (by rfl) rfl ?_ ?_
     rotate_left
     ·go_simp
      rfl
     refine hK.out _ _ (m3 hHeld (fun e => cs gb722 NB722_733 (cs gb722 NB722_733 (cs gb722 NB722_733 e)))) (fun hHeld => ?_)
     clear hK K
     refine pu 22 (some 4) (tA 24 8388607) HT_ ?_
     refine pu 23 (some 5) (tA 24 16777215) HT_ ?_
     refine done_ (done_of HT_.out (by kernel_rfl)) ?_
     try go_wp2
     refine bodyPost_ret (results_list (rs := [.tmp 2, .cell 3 27, .tmp 4, .tmp 5]) rfl (by simp) (.tmp (.cell gb722 27 #[.int .i64 t728, .int .i64 t729, .int .i64 t730] (0, 0) _ rfl (bp) Try.underlying27 rfl (by kernel_rfl) (.tmp (.tmp .nil))))) rfl ?_
     exact ⟨er, by exact ib101⟩

end Go.Proofs.Ytkfodnlogflcpaa.PFnLattices

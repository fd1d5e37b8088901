-- Printed by the kit's print and repaired by a program of this session.
import Derived.Test.YtkfodnlogflcpaaPFnLatticesx0
import Derived.Test.YtkfodnlogflcpaaPFnLatticesx1
import Derived.Test.YtkfodnlogflcpaaPFnLatticesx3
import Derived.Test.YtkfodnlogflcpaaPFnLatticesx11
import Derived.Test.YtkfodnlogflcpaaPFnLatticesx12
import Derived.Test.YtkfodnlogflcpaaPFnLatticesx18
namespace Go.Proofs.Ytkfodnlogflcpaa.PFnLattices
open Go.RowKit Go.Proofs.YtkfodnlogflcpaaW.PrintWords Go.Proofs.YtkfodnlogflcpaaW.PrintLast Go.Proofs.YtkfodnlogflcpaaW.PrintMore
attribute [local go_sem] max2_int min2_int max_two min_two max_three min_three max_four min_four
set_option linter.unusedVariables false
set_option linter.unusedSimpArgs false

attribute [local go_sem high] eqA27
theorem len_of {α : Type} {c : Prop} [Decidable c] {x : Option α} {r : α} (h : (if c then x else none) = some r) : c ∧ x = some r := by
 by_cases k : c
 ·rw [if_pos k] at h; exact ⟨k, h⟩
 ·rw [if_neg k] at h; exact absurd h (by simp)
theorem info5 : (Try.prog.info? 5).map (fun i => (i.zero, i.size, i.bytes)) = some (some (.int .u8 0), 1, 1) := by kernel_rfl
theorem box_row {α : Type} {d : Kd α} {W W1 : World} {g t e base : Nat} {cs : Array Value} {ok : Nat → Prop} {v : Value} {xs : List α} (hb : W.heap[g]? = some (.cells cs t (0, 0))) (ho : d.R e W base ok v xs) (hg : W.grownBy W1 v.ownBlock) (ht : t ≠ e) :
  W1.heap[g]? = some (.cells cs t (0, 0)) := by
 refine blk_grown hb hg (fun h => ?_)
 obtain ⟨_, inner, hw, _⟩ := ho
 obtain ⟨cells, hc⟩ := own_typed hw g h.symm
 rw [hb] at hc
 simp at hc
 exact ht hc.2
/-! ### spec_DrawAreOneClass: function 28 -/
def spec_DrawAreOneClass.j0 : Nat → Int → Bool → Int → Int → Int → Int → Int → Int → Option (Int × Int × Int × Int × Int × Int × Int)
 | 0, _, _, _, _, _, _, _, _ => none
 | k + 1, x6, x36, x701000, x701001, x701002, x702000, x702001, x702002 => if x36 = true then (some (x6, x701000, x701001, x701002, wrap64 (x701000 + 1), wrap64 (x701001 * x6), wrap64 (x701002 + 1))) else (some (x6, x701000, x701001, x701002, x702000, x702001, x702002))
def spec_DrawAreOneClass.f (k : Nat) (l0 : List Int) : Option (Int × Int × Int × Int × Int × Int × Int) := if 1 + l0.length < 17592186044416 then ((spec_l01From.f k (7 :: l0)).bind fun bt689 => ((spec_l03Two.f k l0).bind fun bt693 => ((spec_l01Next.f bt689.1 bt689.2.1 bt689.2.2 2).bind fun bt702 => (if bt702.1 = 0 then ((spec_l03Is.f k bt693.1 bt693.2.1 bt693.2.2.1 bt693.2.2.2.1).bind fun t705 => (if t705 = true then (if bt693.2.1 < 12 then (spec_DrawAreOneClass.j0 k bt693.1 (decide (bt693.2.2.2.1 < 12)) bt693.2.1 bt693.2.2.1 bt693.2.2.2.1 bt693.2.2.2.2.1 bt693.2.2.2.2.2.1 bt693.2.2.2.2.2.2) else (spec_DrawAreOneClass.j0 k bt693.1 false bt693.2.1 bt693.2.2.1 bt693.2.2.2.1 bt693.2.2.2.2.1 bt693.2.2.2.2.2.1 bt693.2.2.2.2.2.2)) else (spec_DrawAreOneClass.j0 k bt693.1 false bt693.2.1 bt693.2.2.1 bt693.2.2.2.1 bt693.2.2.2.2.1 bt693.2.2.2.2.2.1 bt693.2.2.2.2.2.2))) else (spec_DrawAreOneClass.j0 k bt693.1 false bt693.2.1 bt693.2.2.1 bt693.2.2.2.1 bt693.2.2.2.2.1 bt693.2.2.2.2.2.1 bt693.2.2.2.2.2.2))))) else none
def spec_DrawAreOneClass.T4 : Bool × List (List Nat × List Nat) := (true, [([], []), ([], []), ([], []), ([2], [2]), ([3], [3]), ([], []), ([5], [5]), ([], []), ([6, 7], [6, 7]), ([], []), ([9], [9]), ([10], [10]), ([4, 8, 11], [4, 8, 11]), ([0, 0], [0]), ([1, 13, 0, 1, 13], [1]), ([12, 14, 0, 1, 2, 3, 4, 5, 6, 7, 8, 9, 10, 11, 12, 13, 14], [12])])
def spec_DrawAreOneClass.B4 : List Nat := [0, 0, 0, 4, 12, 0, 32, 0, 224, 0, 512, 1536, 4092, 1, 8195, 32767]
theorem spec_DrawAreOneClass.tab4 : rtab .any (opsOf Try.f28 4) = spec_DrawAreOneClass.T4 := by kernel_rfl
theorem spec_DrawAreOneClass.bits4 : waitsOk spec_DrawAreOneClass.T4.2 spec_DrawAreOneClass.B4 = true := by kernel_rfl
set_option maxHeartbeats 8000000 in
set_option maxRecDepth 100000 in
theorem spec_DrawAreOneClass.calls (k : Nat) (A0 : Option Addr) (c0 : Nat) (l0 : List Int) (r1 : Int) (r2 : Int) (r3 : Int) (r4 : Int) (r5 : Int) (r6 : Int) (r7 : Int) (w : World) (hr0 : Kd.C (Kd.int .u8) w A0 l0.length l0) (hc0 : l0.length ≤ c0) (h : spec_DrawAreOneClass.f k l0 = some (r1, r2, r3, r4, r5, r6, r7)) :
  Calls Try.prog 28 #[.slice A0 l0.length c0] w fun e w' => e = .returned (.tuple #[.int .i64 r1, .agg #[.int .i64 r2, .int .i64 r3, .int .i64 r4], .agg #[.int .i64 r5, .int .i64 r6, .int .i64 r7]]) ∧ Below w.heap.size w w' := by
 have hu27 := Try.underlying27
 have HR0 := Aside0.mk hr0
 have HC0 := Aside0.mk hc0
 clear hr0 hc0
 have HB := Aside0.mk (Below.refl w.heap.size w)
 unfold spec_DrawAreOneClass.f at h
 have H := h
 clear h
 obtain ⟨hlen, H⟩ := len_of H
 have LM := Aside0.mk hlen
 clear hlen
 replace H := zi H
 obtain ⟨⟨t689, t690, t691⟩, A2, H⟩ := H
 try dsimp only at H
 replace H := zi H
 obtain ⟨⟨t693, t694, t695, t696, t697, t698, t699⟩, A3, H⟩ := H
 try dsimp only at H
 have HC4 := Aside0.mk H
 clear H
 go_enter Try.func28, Try.ntmps28
 go_upto_region 3 with (first | ((with_reducible refine zg 3 rfl ?_); refine z3 3 27 0 0 0 ?_; intro gb687 hg w5 BK687 hb; have GW687 := sg hg; replace HB := bs hb; clear hb hg) | ((with_reducible refine zg 4 rfl ?_); refine z3 4 27 0 0 0 ?_; intro gb688 hg w6 BK688 hb; have GW688 := sg hg; have NB687_688 := nl hg BK687; replace BK687 := bb BK687 hb; replace HB := bs hb; clear hb hg) | ((with_reducible refine zg 9 rfl ?_); refine Kd.R_lit (Kd.int .u8) _ 5 ?hg (N := 9) ?hd (xs := ([7] : List Int)) (inner := [.int .u8 7]) (ok := fun _ => True) (okp := fun _ => True) ?hr ?hp (fun _ hk => hk) trivial (Below.refl _ _) (Nat.le_refl _) (by simp) ?_; (case hd => rfl); (case hg => rfl); (case hr => first | (go_simp; done) | (go_simp; rfl)); (case hp => exact (Reps.one (show Kd.M (Kd.int .u8) _ _ _ 7 [.int .u8 7] from rfl) (Reps.none _ _))); intro vX wY hoX hb hg_ hnew_; clear hg_ hnew_; have n0_ := bb BK687 hb; have n1_ := bb BK688 hb; have n2_ := bs hb; have n3_ := Aside0.mk (Kd.R_lower hoX (below_size (bl))); clear BK687 BK688 HB; have BK687 := n0_; have BK688 := n1_; have HB := n2_; have HOX := n3_; clear n0_ n1_ n2_ n3_ hb hoX) | ((with_reducible refine gate_builtin (b := .append) (xs := #[.tmp 9, .tmp 10]) rfl ?_); at_builtin; refine Kd.R_append_rows (Kd.int .u8) (w0 := w) w.heap.size rfl (.tmp 9) (.tmp 10) 32 5 (.int .u8 0) 1 rfl Try.underlying32 info5 rfl (by decide) (by omega) vX [7] l0 _ _ _ (fun _ => True) (fun _ => False) rfl rfl ?aO ?aR (fun _ _ h => h) (fun _ h => h.elim) ?aF ?aB ?aS ?aL ?_; (case aR => repeat (first | exact (Kd.C_below HR0.out HB.out) | (with_reducible refine Kd.C_alloc ?_ _) | (with_reducible refine Kd.C_drewN ?_ _) | (with_reducible refine Kd.C_drew ?_))); (case aB => exact (bl)); (case aF => exact (fun _ _ => trivial)); (case aO => exact (by (with_reducible repeat (first | apply Kd.R_alloc | apply Kd.R_drewN | apply Kd.R_drew)); exact HOX.out)); (case aS => exact (below_size (bl))); (case aL => have := LM.out; simp only [List.length_cons, List.length_nil]; omega); intro vZ wX ho hb hg hat; have hoX : Kd.R (Kd.int .u8) 5 wX w.heap.size (fun _ => True) vZ (7 :: l0) := ho; clear ho; have n0_ := Aside0.mk (box_row (be BK687) (by (with_reducible repeat (first | apply Kd.R_alloc | apply Kd.R_drewN | apply Kd.R_drew)); exact HOX.out) hg (by decide)); have n1_ := Aside0.mk (box_row (be BK688) (by (with_reducible repeat (first | apply Kd.R_alloc | apply Kd.R_drewN | apply Kd.R_drew)); exact HOX.out) hg (by decide)); clear BK687 BK688 HB HOX; have BK687 := n0_; have BK688 := n1_; have HB := Aside0.mk hb; have HBX := HB; have HX := Aside0.mk (Below.refl wX.heap.size wX); clear n0_ n1_ hb hg hat; obtain ⟨AZ, cZ, eZ⟩ := Kd.R_slice hoX; subst eZ; have HOZ := Aside0.mk hoX; clear hoX) | ((with_reducible refine zf 45 rfl ?_); refine g1 (some 12) Try.func45 #[.slice AZ (7 :: l0).length cZ] ?_; (with_reducible refine (spec_l01From.calls k _ _ (7 :: l0) t689 t690 t691 wX _ ?side1 ?side2 ?side3 A2.out).mono ?_); (case side1 => exact (by repeat (first | (with_reducible first | exact HX.out | apply below_alloc | apply pw_below_drewN | apply below_drew1) | exact HX.out))); (case side2 => exact (Kd.R_reads' HOZ.out).2.2); (case side3 => exact (Kd.R_reads' HOZ.out).2.1); rintro e w7 ⟨g692, rfl, hi, hb, hb2⟩; refine ⟨_, rfl, ?_⟩; have n0_ := Aside0.mk (blk_below (g := gb687) (o := .cells #[.int .i64 0, .int .i64 0, .int .i64 0] 27 (0, 0)) (be BK687) hb2); have n1_ := Aside0.mk (blk_below (g := gb688) (o := .cells #[.int .i64 0, .int .i64 0, .int .i64 0] 27 (0, 0)) (be BK688) hb2); have n2_ := Aside0.mk (below_step (bl) hb2); have HXn_ := Aside0.mk (hb); have n3_ := Aside0.mk (hi); have n4_ := Aside0.mk (IsS101.ne_blk hi (blk_below (g := gb687) (o := .cells #[.int .i64 0, .int .i64 0, .int .i64 0] 27 (0, 0)) (be BK687) hb2) (by decide)); have n5_ := Aside0.mk (Ne.symm (IsS101.ne_blk hi (blk_below (g := gb687) (o := .cells #[.int .i64 0, .int .i64 0, .int .i64 0] 27 (0, 0)) (be BK687) hb2) (by decide))); have n6_ := Aside0.mk (IsS101.ne_blk hi (blk_below (g := gb688) (o := .cells #[.int .i64 0, .int .i64 0, .int .i64 0] 27 (0, 0)) (be BK688) hb2) (by decide)); have n7_ := Aside0.mk (Ne.symm (IsS101.ne_blk hi (blk_below (g := gb688) (o := .cells #[.int .i64 0, .int .i64 0, .int .i64 0] 27 (0, 0)) (be BK688) hb2) (by decide))); clear BK687; clear BK688; clear HB; clear HX; have HX := HXn_; clear HXn_; have BK687 := n0_; have BK688 := n1_; have HB := n2_; have HI692 := n3_; have NB692_687 := n4_; have NB687_692 := n5_; have NB692_688 := n6_; have NB688_692 := n7_; clear n0_ n1_ n2_ n3_ n4_ n5_ n6_ n7_; (try clear hb); (try clear hb2); (try clear hk); (try clear hi)) | ((with_reducible refine zf 68 rfl ?_); refine g1 (some 15) Try.func68 #[.slice A0 l0.length c0] ?_; (with_reducible refine (spec_l03Two.calls k _ _ l0 t693 t694 t695 t696 t697 t698 t699 _ ?side1 ?side2 A3.out).mono ?_); (case side1 => repeat (first | exact (Kd.C_below HR0.out HB.out) | (with_reducible refine Kd.C_alloc ?_ _) | (with_reducible refine Kd.C_drewN ?_ _) | (with_reducible refine Kd.C_drew ?_))); (case side2 => exact HC0.out); rintro e w8 ⟨rfl, hb⟩; refine ⟨_, rfl, ?_⟩; have HXn_ := Aside0.mk (below_step (by repeat (first | (with_reducible first | exact HX.out | apply below_alloc | apply pw_below_drewN | apply below_drew1) | exact HX.out)) hb); clear HX; have HX := HXn_; clear HXn_; replace BK687 := bb BK687 hb; replace BK688 := bb BK688 hb; replace HB := Aside0.mk (below_step (by repeat (first | (with_reducible first | exact HB.out | apply below_alloc | apply pw_below_drewN | apply below_drew1 | refine below_set ?_ (Nat.le_trans (below_size HBX.out) (IsS101.ge HI692.out)) | refine below_set ?_ GW687.out | refine below_set ?_ GW688.out) | exact HB.out)) hb); replace HI692 := Aside0.mk (IsS101.below (is101) hb); (try clear hb)) | ((with_reducible refine zg 7 rfl ?_); refine bx (N := 7) (cs := #[.int .i64 0, .int .i64 0, .int .i64 0]) (t := 27) ?_; intro gb700 hg w9 hbox hb; have GX700 := Aside0.mk (by rw [hg]; exact below_size (by repeat (first | (with_reducible first | exact HX.out | apply below_alloc | apply pw_below_drewN | apply below_drew1) | exact HX.out)) : wX.heap.size ≤ gb700); have HXn_ := Aside0.mk (below_step (by repeat (first | (with_reducible first | exact HX.out | apply below_alloc | apply pw_below_drewN | apply below_drew1) | exact HX.out)) hb); clear HX; have HX := HXn_; clear HXn_; have BK700 := Aside0.mk (hbox); have GW700 := Aside0.mk ((by rw [hg]; exact (below_size (by repeat (first | (with_reducible first | exact HB.out | apply below_alloc | apply pw_below_drewN | apply below_drew1 | refine below_set ?_ (Nat.le_trans (below_size HBX.out) (IsS101.ge HI692.out)) | refine below_set ?_ GW687.out | refine below_set ?_ GW688.out) | exact HB.out))) : w.heap.size ≤ gb700)); have GE700 := Aside0.mk ((by rw [hg]; exact (below_size (by repeat (first | (with_reducible first | exact HB.out | apply below_alloc | apply pw_below_drewN | apply below_drew1 | refine below_set ?_ (Nat.le_trans (below_size HBX.out) (IsS101.ge HI692.out)) | refine below_set ?_ GW687.out | refine below_set ?_ GW688.out) | exact HB.out))) : w.heap.size ≤ gb700)); have NB687_700 := nl hg BK687; have NB688_700 := nl hg BK688; have NB692_700 := Aside0.mk ((by rw [hg]; exact Nat.ne_of_lt (IsS101.lt (show IsS101 wX _ g692 t689 t690 t691 from by exact is101)) : g692 ≠ gb700)); have NB700_692 := Aside0.mk ((by rw [hg]; exact Nat.ne_of_gt (IsS101.lt (show IsS101 wX _ g692 t689 t690 t691 from by exact is101)) : gb700 ≠ g692)); replace BK687 := bb BK687 hb; replace BK688 := bb BK688 hb; replace HB := Aside0.mk (below_step (by repeat (first | (with_reducible first | exact HB.out | apply below_alloc | apply pw_below_drewN | apply below_drew1 | refine below_set ?_ (Nat.le_trans (below_size HBX.out) (IsS101.ge HI692.out)) | refine below_set ?_ GW687.out | refine below_set ?_ GW688.out) | exact HB.out)) hb); replace HI692 := Aside0.mk (IsS101.below (is101) hb); clear hb hg) | ((with_reducible refine zg 8 rfl ?_); refine bx (N := 8) (cs := #[.int .i64 0, .int .i64 0, .int .i64 0]) (t := 27) ?_; intro gb701 hg w10 hbox hb; have GX701 := Aside0.mk (by rw [hg]; exact below_size (by repeat (first | (with_reducible first | exact HX.out | apply below_alloc | apply pw_below_drewN | apply below_drew1 | refine below_set ?_ GX700.out) | exact HX.out)) : wX.heap.size ≤ gb701); have HXn_ := Aside0.mk (below_step (by repeat (first | (with_reducible first | exact HX.out | apply below_alloc | apply pw_below_drewN | apply below_drew1 | refine below_set ?_ GX700.out) | exact HX.out)) hb); clear HX; have HX := HXn_; clear HXn_; have BK701 := Aside0.mk (hbox); have GW701 := Aside0.mk ((by rw [hg]; exact (below_size (by repeat (first | (with_reducible first | exact HB.out | apply below_alloc | apply pw_below_drewN | apply below_drew1 | refine below_set ?_ (Nat.le_trans (below_size HBX.out) (IsS101.ge HI692.out)) | refine below_set ?_ GW687.out | refine below_set ?_ GW688.out | refine below_set ?_ GE700.out) | exact HB.out))) : w.heap.size ≤ gb701)); have GE701 := Aside0.mk ((by rw [hg]; exact (below_size (by repeat (first | (with_reducible first | exact HB.out | apply below_alloc | apply pw_below_drewN | apply below_drew1 | refine below_set ?_ (Nat.le_trans (below_size HBX.out) (IsS101.ge HI692.out)) | refine below_set ?_ GW687.out | refine below_set ?_ GW688.out | refine below_set ?_ GE700.out) | exact HB.out))) : w.heap.size ≤ gb701)); have NB687_701 := nl hg BK687; have NB688_701 := nl hg BK688; have NB700_701 := nl hg BK700; have NB692_701 := Aside0.mk ((by rw [hg]; exact Nat.ne_of_lt (IsS101.lt (show IsS101 wX _ g692 t689 t690 t691 from by exact is101)) : g692 ≠ gb701)); have NB701_692 := Aside0.mk ((by rw [hg]; exact Nat.ne_of_gt (IsS101.lt (show IsS101 wX _ g692 t689 t690 t691 from by exact is101)) : gb701 ≠ g692)); replace BK687 := bb BK687 hb; replace BK688 := bb BK688 hb; replace BK700 := bb BK700 hb; replace HB := Aside0.mk (below_step (by repeat (first | (with_reducible first | exact HB.out | apply below_alloc | apply pw_below_drewN | apply below_drew1 | refine below_set ?_ (Nat.le_trans (below_size HBX.out) (IsS101.ge HI692.out)) | refine below_set ?_ GW687.out | refine below_set ?_ GW688.out | refine below_set ?_ GE700.out) | exact HB.out)) hb); replace HI692 := Aside0.mk (IsS101.below (is101) hb); clear hb hg; obtain ⟨hnb11, hnc11⟩ := zm NB687_700; obtain ⟨hnb12, hnc12⟩ := zm NB688_700; obtain ⟨hnb13, hnc13⟩ := zn NB700_701; have hnb14 := NB700_692.out; have hnc14 := NB692_700.out; obtain ⟨hcz15_0, hcz15_1, hcz15_2, hfz15_0, hfz15_1, hfz15_2⟩ := cq3 BK700; obtain ⟨hnb16, hnc16⟩ := zm NB687_701; obtain ⟨hnb17, hnc17⟩ := zm NB688_701; have hnb18 := NB701_692.out; have hnc18 := NB692_701.out; obtain ⟨hcz19_0, hcz19_1, hcz19_2, hfz19_0, hfz19_1, hfz19_2⟩ := cq3 BK701))
 (try simp only [Act.put, zq, zr, zt])
 go_cut [36] (fun v36 wc => ∃ (kq : Nat) (x36_3 : Bool), v36 = .bool x36_3 ∧ Aside0 (spec_DrawAreOneClass.j0 kq t693 x36_3 t694 t695 t696 t697 t698 t699 = some (r1, r2, r3, r4, r5, r6, r7)) ∧ Aside0 (kq ≤ k) ∧ Aside0 (wc.heap[gb687]? = some (.cells #[.int .i64 0, .int .i64 0, .int .i64 0] 27 (0, 0))) ∧ Aside0 (wc.heap[gb688]? = some (.cells #[.int .i64 0, .int .i64 0, .int .i64 0] 27 (0, 0))) ∧ Aside0 (wc.heap[gb700]? = some (.cells #[.int .i64 t694, .int .i64 t695, .int .i64 t696] 27 (0, 0))) ∧ Aside0 (wc.heap[gb701]? = some (.cells #[.int .i64 t697, .int .i64 t698, .int .i64 t699] 27 (0, 0))) ∧ Aside0 (Below w.heap.size w wc))
 case first =>
  have H := HC4.out
  clear HC4
  replace H := zi H
  obtain ⟨⟨t702, t703, t704⟩, A20, H⟩ := H
  try dsimp only at H
  replace H := ii H
  rcases H with ⟨c21, H⟩ | ⟨c21, H⟩
  ·obtain ⟨c21b0, c21b1⟩ := zz c21
   clear c21
   (first | rw [c21b0] | (simp only [i64_w, i32_w]; rw [c21b0]) | skip)
   replace H := zi H
   obtain ⟨t705, A22, H⟩ := H
   try dsimp only at H
   by_cases c23 : t705 = true
   ·subst c23
    rw [if_pos rfl] at H
    replace H := ii H
    rcases H with ⟨c24, H⟩ | ⟨c24, H⟩
    ·have c24b0 := decide_eq_true c24
     clear c24
     have H' := Aside0.mk H
     clear H
     go_wp2_with (first | ((with_reducible refine zf 47 rfl ?_); refine g1 (some 20) Try.func47 #[.pointer (some ⟨g692, 0, none⟩), .int .i64 2] ?_; (with_reducible refine (spec_l01Next.calls g692 t689 t690 t691 2 t702 t703 t704 wX _ ?side1 ?side2 A20.out).mono ?_); (case side1 => exact is101); (case side2 => exact (by repeat (first | (with_reducible first | exact HX.out | apply below_alloc | apply pw_below_drewN | apply below_drew1 | refine below_set ?_ GX700.out | refine below_set ?_ GX701.out) | exact HX.out))); rintro e w25 ⟨rfl, hi, hb, hk⟩; refine ⟨_, rfl, ?_⟩; replace BK687 := Aside0.mk (KeepBut.blk hk (g' := gb687) (o := .cells #[.int .i64 0, .int .i64 0, .int .i64 0] 27 (0, 0)) (bp) NB687_692.out (by simp)); replace BK688 := Aside0.mk (KeepBut.blk hk (g' := gb688) (o := .cells #[.int .i64 0, .int .i64 0, .int .i64 0] 27 (0, 0)) (bp) NB688_692.out (by simp)); replace BK700 := Aside0.mk (KeepBut.blk hk (g' := gb700) (o := .cells #[.int .i64 t694, .int .i64 t695, .int .i64 t696] 27 (0, 0)) (bp) NB700_692.out (by simp)); replace BK701 := Aside0.mk (KeepBut.blk hk (g' := gb701) (o := .cells #[.int .i64 t697, .int .i64 t698, .int .i64 t699] 27 (0, 0)) (bp) NB701_692.out (by simp)); replace HI692 := Aside0.mk (hi); replace HB := Aside0.mk (below_step HBX.out hb); (try clear hb hk); obtain ⟨hnb26, hnc26⟩ := zm NB687_700; obtain ⟨hnb27, hnc27⟩ := zm NB688_700; obtain ⟨hnb28, hnc28⟩ := zn NB700_701; have hnb29 := NB700_692.out; have hnc29 := NB692_700.out; obtain ⟨hcz30_0, hcz30_1, hcz30_2, hfz30_0, hfz30_1, hfz30_2⟩ := cq3 BK700) | (go_at_call 60; (with_reducible refine (spec_l03Is.calls k t693 t694 t695 t696 true _ A22.out).mono ?_); rintro e w31 ⟨rfl, hb⟩; replace BK687 := bb BK687 hb; replace BK688 := bb BK688 hb; replace BK700 := bb BK700 hb; replace BK701 := bb BK701 hb; replace HB := Aside0.mk (below_step (by repeat (first | (with_reducible first | exact HB.out | apply below_alloc | apply pw_below_drewN | apply below_drew1 | refine below_set ?_ (Nat.le_trans (below_size HBX.out) (IsS101.ge HI692.out)) | refine below_set ?_ GW687.out | refine below_set ?_ GW688.out | refine below_set ?_ GE700.out | refine below_set ?_ GE701.out) | exact HB.out)) hb); replace HI692 := Aside0.mk (IsS101.below (is101) hb); (try clear hb); obtain ⟨hcz32_0, hcz32_1, hcz32_2, hfz32_0, hfz32_1, hfz32_2⟩ := cq3 BK700))
     go_meet
     case rel => exact ⟨_, (decide (t696 < 12)), (by first | rfl | (simp; done) | (simp [*]; done)), H', ⟨by first | omega | exact Nat.le_refl _⟩, ⟨be BK687⟩, ⟨be BK688⟩, ⟨be BK700⟩, ⟨be BK701⟩, ⟨by repeat (first | (with_reducible first | exact HB.out | apply below_alloc | apply pw_below_drewN | apply below_drew1 | refine below_set ?_ (Nat.le_trans (below_size HBX.out) (IsS101.ge HI692.out)) | refine below_set ?_ GW687.out | refine below_set ?_ GW688.out | refine below_set ?_ GE700.out | refine below_set ?_ GE701.out) | exact HB.out)⟩⟩
    ·have c24b0 := decide_eq_false c24
     clear c24
     have H' := Aside0.mk H
     clear H
     go_wp2_with (first | ((with_reducible refine zf 47 rfl ?_); refine g1 (some 20) Try.func47 #[.pointer (some ⟨g692, 0, none⟩), .int .i64 2] ?_; (with_reducible refine (spec_l01Next.calls g692 t689 t690 t691 2 t702 t703 t704 wX _ ?side1 ?side2 A20.out).mono ?_); (case side1 => exact is101); (case side2 => exact (by repeat (first | (with_reducible first | exact HX.out | apply below_alloc | apply pw_below_drewN | apply below_drew1 | refine below_set ?_ GX700.out | refine below_set ?_ GX701.out) | exact HX.out))); rintro e w33 ⟨rfl, hi, hb, hk⟩; refine ⟨_, rfl, ?_⟩; replace BK687 := Aside0.mk (KeepBut.blk hk (g' := gb687) (o := .cells #[.int .i64 0, .int .i64 0, .int .i64 0] 27 (0, 0)) (bp) NB687_692.out (by simp)); replace BK688 := Aside0.mk (KeepBut.blk hk (g' := gb688) (o := .cells #[.int .i64 0, .int .i64 0, .int .i64 0] 27 (0, 0)) (bp) NB688_692.out (by simp)); replace BK700 := Aside0.mk (KeepBut.blk hk (g' := gb700) (o := .cells #[.int .i64 t694, .int .i64 t695, .int .i64 t696] 27 (0, 0)) (bp) NB700_692.out (by simp)); replace BK701 := Aside0.mk (KeepBut.blk hk (g' := gb701) (o := .cells #[.int .i64 t697, .int .i64 t698, .int .i64 t699] 27 (0, 0)) (bp) NB701_692.out (by simp)); replace HI692 := Aside0.mk (hi); replace HB := Aside0.mk (below_step HBX.out hb); (try clear hb hk); obtain ⟨hnb34, hnc34⟩ := zm NB687_700; obtain ⟨hnb35, hnc35⟩ := zm NB688_700; obtain ⟨hnb36, hnc36⟩ := zn NB700_701; have hnb37 := NB700_692.out; have hnc37 := NB692_700.out; obtain ⟨hcz38_0, hcz38_1, hcz38_2, hfz38_0, hfz38_1, hfz38_2⟩ := cq3 BK700) | (go_at_call 60; (with_reducible refine (spec_l03Is.calls k t693 t694 t695 t696 true _ A22.out).mono ?_); rintro e w39 ⟨rfl, hb⟩; replace BK687 := bb BK687 hb; replace BK688 := bb BK688 hb; replace BK700 := bb BK700 hb; replace BK701 := bb BK701 hb; replace HB := Aside0.mk (below_step (by repeat (first | (with_reducible first | exact HB.out | apply below_alloc | apply pw_below_drewN | apply below_drew1 | refine below_set ?_ (Nat.le_trans (below_size HBX.out) (IsS101.ge HI692.out)) | refine below_set ?_ GW687.out | refine below_set ?_ GW688.out | refine below_set ?_ GE700.out | refine below_set ?_ GE701.out) | exact HB.out)) hb); replace HI692 := Aside0.mk (IsS101.below (is101) hb); (try clear hb); obtain ⟨hcz40_0, hcz40_1, hcz40_2, hfz40_0, hfz40_1, hfz40_2⟩ := cq3 BK700))
     go_meet
     case rel => exact ⟨_, (false), (by first | rfl | (simp; done) | (simp [*]; done)), H', ⟨by first | omega | exact Nat.le_refl _⟩, ⟨be BK687⟩, ⟨be BK688⟩, ⟨be BK700⟩, ⟨be BK701⟩, ⟨by repeat (first | (with_reducible first | exact HB.out | apply below_alloc | apply pw_below_drewN | apply below_drew1 | refine below_set ?_ (Nat.le_trans (below_size HBX.out) (IsS101.ge HI692.out)) | refine below_set ?_ GW687.out | refine below_set ?_ GW688.out | refine below_set ?_ GE700.out | refine below_set ?_ GE701.out) | exact HB.out)⟩⟩
   ·replace c23 := Bool.eq_false_iff.mpr c23
    subst c23
    have H1 : (spec_DrawAreOneClass.j0 k t693 false t694 t695 t696 t697 t698 t699) = some (r1, r2, r3, r4, r5, r6, r7) := by rw [if_neg (show ¬ (false = true) by decide)] at H; exact H
    clear H
    have H := H1
    clear H1
    have H' := Aside0.mk H
    clear H
    go_wp2_with (first | ((with_reducible refine zf 47 rfl ?_); refine g1 (some 20) Try.func47 #[.pointer (some ⟨g692, 0, none⟩), .int .i64 2] ?_; (with_reducible refine (spec_l01Next.calls g692 t689 t690 t691 2 t702 t703 t704 wX _ ?side1 ?side2 A20.out).mono ?_); (case side1 => exact is101); (case side2 => exact (by repeat (first | (with_reducible first | exact HX.out | apply below_alloc | apply pw_below_drewN | apply below_drew1 | refine below_set ?_ GX700.out | refine below_set ?_ GX701.out) | exact HX.out))); rintro e w41 ⟨rfl, hi, hb, hk⟩; refine ⟨_, rfl, ?_⟩; replace BK687 := Aside0.mk (KeepBut.blk hk (g' := gb687) (o := .cells #[.int .i64 0, .int .i64 0, .int .i64 0] 27 (0, 0)) (bp) NB687_692.out (by simp)); replace BK688 := Aside0.mk (KeepBut.blk hk (g' := gb688) (o := .cells #[.int .i64 0, .int .i64 0, .int .i64 0] 27 (0, 0)) (bp) NB688_692.out (by simp)); replace BK700 := Aside0.mk (KeepBut.blk hk (g' := gb700) (o := .cells #[.int .i64 t694, .int .i64 t695, .int .i64 t696] 27 (0, 0)) (bp) NB700_692.out (by simp)); replace BK701 := Aside0.mk (KeepBut.blk hk (g' := gb701) (o := .cells #[.int .i64 t697, .int .i64 t698, .int .i64 t699] 27 (0, 0)) (bp) NB701_692.out (by simp)); replace HI692 := Aside0.mk (hi); replace HB := Aside0.mk (below_step HBX.out hb); (try clear hb hk); obtain ⟨hnb42, hnc42⟩ := zm NB687_700; obtain ⟨hnb43, hnc43⟩ := zm NB688_700; obtain ⟨hnb44, hnc44⟩ := zn NB700_701; have hnb45 := NB700_692.out; have hnc45 := NB692_700.out; obtain ⟨hcz46_0, hcz46_1, hcz46_2, hfz46_0, hfz46_1, hfz46_2⟩ := cq3 BK700) | (go_at_call 60; (with_reducible refine (spec_l03Is.calls k t693 t694 t695 t696 false _ A22.out).mono ?_); rintro e w47 ⟨rfl, hb⟩; replace BK687 := bb BK687 hb; replace BK688 := bb BK688 hb; replace BK700 := bb BK700 hb; replace BK701 := bb BK701 hb; replace HB := Aside0.mk (below_step (by repeat (first | (with_reducible first | exact HB.out | apply below_alloc | apply pw_below_drewN | apply below_drew1 | refine below_set ?_ (Nat.le_trans (below_size HBX.out) (IsS101.ge HI692.out)) | refine below_set ?_ GW687.out | refine below_set ?_ GW688.out | refine below_set ?_ GE700.out | refine below_set ?_ GE701.out) | exact HB.out)) hb); replace HI692 := Aside0.mk (IsS101.below (is101) hb); (try clear hb)))
    go_meet
    case rel => exact ⟨_, (false), (by first | rfl | (simp; done) | (simp [*]; done)), H', ⟨by first | omega | exact Nat.le_refl _⟩, ⟨be BK687⟩, ⟨be BK688⟩, ⟨be BK700⟩, ⟨be BK701⟩, ⟨by repeat (first | (with_reducible first | exact HB.out | apply below_alloc | apply pw_below_drewN | apply below_drew1 | refine below_set ?_ (Nat.le_trans (below_size HBX.out) (IsS101.ge HI692.out)) | refine below_set ?_ GW687.out | refine below_set ?_ GW688.out | refine below_set ?_ GE700.out | refine below_set ?_ GE701.out) | exact HB.out)⟩⟩
  ·obtain ⟨c21b0, c21b1⟩ := zy c21
   (first | rw [c21b0] | (simp only [i64_w, i32_w]; rw [c21b0]) | skip)
   have H' := Aside0.mk H
   clear H
   go_wp2_with (first | ((with_reducible refine zf 47 rfl ?_); refine g1 (some 20) Try.func47 #[.pointer (some ⟨g692, 0, none⟩), .int .i64 2] ?_; (with_reducible refine (spec_l01Next.calls g692 t689 t690 t691 2 t702 t703 t704 wX _ ?side1 ?side2 A20.out).mono ?_); (case side1 => exact is101); (case side2 => exact (by repeat (first | (with_reducible first | exact HX.out | apply below_alloc | apply pw_below_drewN | apply below_drew1 | refine below_set ?_ GX700.out | refine below_set ?_ GX701.out) | exact HX.out))); rintro e w48 ⟨rfl, hi, hb, hk⟩; refine ⟨_, rfl, ?_⟩; replace BK687 := Aside0.mk (KeepBut.blk hk (g' := gb687) (o := .cells #[.int .i64 0, .int .i64 0, .int .i64 0] 27 (0, 0)) (bp) NB687_692.out (by simp)); replace BK688 := Aside0.mk (KeepBut.blk hk (g' := gb688) (o := .cells #[.int .i64 0, .int .i64 0, .int .i64 0] 27 (0, 0)) (bp) NB688_692.out (by simp)); replace BK700 := Aside0.mk (KeepBut.blk hk (g' := gb700) (o := .cells #[.int .i64 t694, .int .i64 t695, .int .i64 t696] 27 (0, 0)) (bp) NB700_692.out (by simp)); replace BK701 := Aside0.mk (KeepBut.blk hk (g' := gb701) (o := .cells #[.int .i64 t697, .int .i64 t698, .int .i64 t699] 27 (0, 0)) (bp) NB701_692.out (by simp)); replace HI692 := Aside0.mk (hi); replace HB := Aside0.mk (below_step HBX.out hb); (try clear hb hk)))
   go_meet
   case rel => exact ⟨_, (false), (by first | rfl | (simp; done) | (simp [*]; done)), H', ⟨by first | omega | exact Nat.le_refl _⟩, ⟨be BK687⟩, ⟨be BK688⟩, ⟨be BK700⟩, ⟨be BK701⟩, ⟨by repeat (first | (with_reducible first | exact HB.out | apply below_alloc | apply pw_below_drewN | apply below_drew1 | refine below_set ?_ (Nat.le_trans (below_size HBX.out) (IsS101.ge HI692.out)) | refine below_set ?_ GW687.out | refine below_set ?_ GW688.out | refine below_set ?_ GE700.out | refine below_set ?_ GE701.out) | exact HB.out)⟩⟩
 case rest =>
  clear HC4
  obtain ⟨kq, x36_3, rfl, HA, HJ3, BK687, BK688, BK700, BK701, HB⟩ := hcut
  cases kq with
  | zero => exact absurd HA.out (by simp [spec_DrawAreOneClass.j0])
  | succ kj3 =>
   have H := HA.out
   clear HA
   simp only [spec_DrawAreOneClass.j0] at H
   by_cases c49 : x36_3 = true
   ·subst c49
    rw [if_pos rfl] at H
    simp only [Option.some.injEq, Prod.mk.injEq] at H
    obtain ⟨rfl, rfl, rfl, rfl, rfl, rfl, rfl⟩ := H
    try go_wp2
    replace BK687 := Aside0.mk (blk_drew BK687.out)
    replace BK688 := Aside0.mk (blk_drew BK688.out)
    replace BK700 := Aside0.mk (blk_drew BK700.out)
    replace BK701 := Aside0.mk (blk_drew BK701.out)
    replace HB := Aside0.mk (below_drew1 HB.out)
    refine sw 16 (fun w' => w'.cell? ⟨gb700, 0, none⟩ = some (.int .i64 t694) ∧ w'.cell? ⟨gb700, 1, none⟩ = some (.int .i64 t695) ∧ w'.cell? ⟨gb700, 2, none⟩ = some (.int .i64 t696)) spec_DrawAreOneClass.tab4 spec_DrawAreOneClass.bits4 (e3 BK700) (fun hHeld HT_ HW_ => ?_)
    generalize wc.drew = w50 at BK687 BK688 BK700 BK701 HB hHeld ⊢
    refine pu 0 (some 37) (tA 16 1) HT_ ?_
    refine pu 2 (some 39) (tA 16 5) HT_ ?_
    refine pu 5 (some 42) (tA 16 37) HT_ ?_
    refine pu 7 (some 44) (tA 16 165) HT_ ?_
    refine pu 9 (some 46) (tA 16 677) HT_ ?_
    refine pu 13 (some 2) (tA 16 8869) HT_ ?_
    refine tk3 1 (some 38) (tA 16 8871) HT_ HW_ hHeld ?_
    refine tk3 3 (some 40) (tA 16 8879) HT_ HW_ hHeld ?_
    refine pu 4 (some 41) (tA 16 8895) HT_ ?_
    refine tk3 6 (some 43) (tA 16 8959) HT_ HW_ hHeld ?_
    refine pu 8 (some 45) (tA 16 9215) HT_ ?_
    refine tk3 10 (some 47) (tA 16 10239) HT_ HW_ hHeld ?_
    refine pu 11 (some 48) (tA 16 12287) HT_ ?_
    refine pu 12 (some 49) (tA 16 16383) HT_ ?_
    refine o1 14 none (tA 16 32767) HT_ (fun K hK => ?_)
    have hs51 : w50.cell? ⟨gb687, 0, none⟩ = some (.int .i64 0) := (blk_cell BK687.out 0).trans rfl
    have hfs51 := blk_frozen BK687.out 0
    have hns51_1 := NB687_688.out.symm
    have hns51_2 := NB687_700.out.symm
    have hns51_3 := NB687_701.out.symm
    have hms51_1 := NB687_688.out
    have hms51_2 := NB687_700.out
    have hms51_3 := NB687_701.out
    have hs52 : w50.cell? ⟨gb687, 1, none⟩ = some (.int .i64 0) := (blk_cell BK687.out 1).trans rfl
    have hfs52 := blk_frozen BK687.out 1
    have hns52_1 := NB687_688.out.symm
    have hns52_2 := NB687_700.out.symm
    have hns52_3 := NB687_701.out.symm
    have hms52_1 := NB687_688.out
    have hms52_2 := NB687_700.out
    have hms52_3 := NB687_701.out
    have hs53 : w50.cell? ⟨gb687, 2, none⟩ = some (.int .i64 0) := (blk_cell BK687.out 2).trans rfl
    have hfs53 := blk_frozen BK687.out 2
    have hns53_1 := NB687_688.out.symm
    have hns53_2 := NB687_700.out.symm
    have hns53_3 := NB687_701.out.symm
    have hms53_1 := NB687_688.out
    have hms53_2 := NB687_700.out
    have hms53_3 := NB687_701.out
    refine skip_ (w1 := ?_) (by rfl) rfl ?_ ?_
    rotate_left
    ·go_simp
     rfl
    refine hK.out _ _ (m3 hHeld (fun e => cs gb687 NB687_700 (cs gb687 NB687_700 (cs gb687 NB687_700 e)))) (fun hHeld => ?_)
    clear hK K
    refine o1 15 none (tA 16 65535) HT_ (fun K hK => ?_)
    have hs54 : w50.cell? ⟨gb688, 0, none⟩ = some (.int .i64 0) := (blk_cell BK688.out 0).trans rfl
    have hfs54 := blk_frozen BK688.out 0
    have hns54_0 := NB687_688.out
    have hns54_2 := NB688_700.out.symm
    have hns54_3 := NB688_701.out.symm
    have hms54_0 := NB687_688.out.symm
    have hms54_2 := NB688_700.out
    have hms54_3 := NB688_701.out
    have hs55 : w50.cell? ⟨gb688, 1, none⟩ = some (.int .i64 0) := (blk_cell BK688.out 1).trans rfl
    have hfs55 := blk_frozen BK688.out 1
    have hns55_0 := NB687_688.out
    have hns55_2 := NB688_700.out.symm
    have hns55_3 := NB688_701.out.symm
    have hms55_0 := NB687_688.out.symm
    have hms55_2 := NB688_700.out
    have hms55_3 := NB688_701.out
    have hs56 : w50.cell? ⟨gb688, 2, none⟩ = some (.int .i64 0) := (blk_cell BK688.out 2).trans rfl
    have hfs56 := blk_frozen BK688.out 2
    have hns56_0 := NB687_688.out
    have hns56_2 := NB688_700.out.symm
    have hns56_3 := NB688_701.out.symm
    have hms56_0 := NB687_688.out.symm
    have hms56_2 := NB688_700.out
    have hms56_3 := NB688_701.out
    refine skip_ (w1 := ?_) (by rfl) rfl ?_ ?_
    rotate_left
    ·go_simp
     rfl
    refine hK.out _ _ (m3 hHeld (fun e => cs gb688 NB688_700 (cs gb688 NB688_700 (cs gb688 NB688_700 e)))) (fun hHeld => ?_)
    clear hK K
    refine done_ (done_of HT_.out (by kernel_rfl)) ?_
    try go_wp2
    refine bodyPost_ret (results_list (rs := [.tmp 2, .cell 3 27, .cell 4 27]) rfl (by simp) (.tmp (.cell gb687 27 #[.int .i64 t694, .int .i64 t695, .int .i64 t696] (0, 0) _ rfl (bp) Try.underlying27 rfl (by kernel_rfl) (.cell gb688 27 #[.int .i64 (wrap64 (t694 + 1)), .int .i64 (wrap64 (t695 * t693)), .int .i64 (wrap64 (t696 + 1))] (0, 0) _ rfl (bp) Try.underlying27 rfl (by kernel_rfl) .nil)))) rfl ?_
    exact ⟨er, bl⟩
   ·replace c49 := Bool.eq_false_iff.mpr c49
    subst c49
    have H1 : (some (t693, t694, t695, t696, t697, t698, t699)) = some (r1, r2, r3, r4, r5, r6, r7) := by rw [if_neg (show ¬ (false = true) by decide)] at H; exact H
    clear H
    have H := H1
    clear H1
    simp only [Option.some.injEq, Prod.mk.injEq] at H
    obtain ⟨rfl, rfl, rfl, rfl, rfl, rfl, rfl⟩ := H
    try go_wp2
    replace BK687 := Aside0.mk (blk_drew BK687.out)
    replace BK688 := Aside0.mk (blk_drew BK688.out)
    replace BK700 := Aside0.mk (blk_drew BK700.out)
    replace BK701 := Aside0.mk (blk_drew BK701.out)
    replace HB := Aside0.mk (below_drew1 HB.out)
    refine start_ (n := 6) (S := fun w' => w'.cell? ⟨gb700, 0, none⟩ = some (.int .i64 t694) ∧ w'.cell? ⟨gb700, 1, none⟩ = some (.int .i64 t695) ∧ w'.cell? ⟨gb700, 2, none⟩ = some (.int .i64 t696) ∧ w'.cell? ⟨gb701, 0, none⟩ = some (.int .i64 t697) ∧ w'.cell? ⟨gb701, 1, none⟩ = some (.int .i64 t698) ∧ w'.cell? ⟨gb701, 2, none⟩ = some (.int .i64 t699)) (ds := []) (tA 6 0) (by kernel_rfl) rfl rfl ⟨(blk_cell BK700.out 0).trans rfl, (blk_cell BK700.out 1).trans rfl, (blk_cell BK700.out 2).trans rfl, (blk_cell BK701.out 0).trans rfl, (blk_cell BK701.out 1).trans rfl, (blk_cell BK701.out 2).trans rfl⟩ (fun hHeld => ?_)
    generalize wc.drew = w57 at BK687 BK688 BK700 BK701 HB hHeld ⊢
    refine pr 0 (some 50) (tA 6 1) ?_
    refine pr 3 (some 2) (tA 6 9) ?_
    refine tr6 1 (some 51) (tA 6 11) hHeld ?_
    refine tr6 2 (some 52) (tA 6 15) hHeld ?_
    refine one_ (i := 4) (N := none) (tA 6 31) rfl rfl (by kernel_rfl) (by decide) (fun K hK => ?_)
    have hs58 : w57.cell? ⟨gb687, 0, none⟩ = some (.int .i64 0) := (blk_cell BK687.out 0).trans rfl
    have hfs58 := blk_frozen BK687.out 0
    have hns58_1 := NB687_688.out.symm
    have hns58_2 := NB687_700.out.symm
    have hns58_3 := NB687_701.out.symm
    have hms58_1 := NB687_688.out
    have hms58_2 := NB687_700.out
    have hms58_3 := NB687_701.out
    have hs59 : w57.cell? ⟨gb687, 1, none⟩ = some (.int .i64 0) := (blk_cell BK687.out 1).trans rfl
    have hfs59 := blk_frozen BK687.out 1
    have hns59_1 := NB687_688.out.symm
    have hns59_2 := NB687_700.out.symm
    have hns59_3 := NB687_701.out.symm
    have hms59_1 := NB687_688.out
    have hms59_2 := NB687_700.out
    have hms59_3 := NB687_701.out
    have hs60 : w57.cell? ⟨gb687, 2, none⟩ = some (.int .i64 0) := (blk_cell BK687.out 2).trans rfl
    have hfs60 := blk_frozen BK687.out 2
    have hns60_1 := NB687_688.out.symm
    have hns60_2 := NB687_700.out.symm
    have hns60_3 := NB687_701.out.symm
    have hms60_1 := NB687_688.out
    have hms60_2 := NB687_700.out
    have hms60_3 := NB687_701.out
    refine skip_ (w1 := ?_) (by rfl) rfl ?_ ?_
    rotate_left
    ·go_simp
     rfl
    refine hK.out _ _ (m3r hHeld (fun e => cs gb687 NB687_700 (cs gb687 NB687_700 (cs gb687 NB687_700 e))) (m3 hHeld.2.2.2 (fun e => cs gb687 NB687_701 (cs gb687 NB687_701 (cs gb687 NB687_701 e))))) (fun hHeld => ?_)
    clear hK K
    refine one_ (i := 5) (N := none) (tA 6 63) rfl rfl (by kernel_rfl) (by decide) (fun K hK => ?_)
    have hs61 : w57.cell? ⟨gb688, 0, none⟩ = some (.int .i64 0) := (blk_cell BK688.out 0).trans rfl
    have hfs61 := blk_frozen BK688.out 0
    have hns61_0 := NB687_688.out
    have hns61_2 := NB688_700.out.symm
    have hns61_3 := NB688_701.out.symm
    have hms61_0 := NB687_688.out.symm
    have hms61_2 := NB688_700.out
    have hms61_3 := NB688_701.out
    have hs62 : w57.cell? ⟨gb688, 1, none⟩ = some (.int .i64 0) := (blk_cell BK688.out 1).trans rfl
    have hfs62 := blk_frozen BK688.out 1
    have hns62_0 := NB687_688.out
    have hns62_2 := NB688_700.out.symm
    have hns62_3 := NB688_701.out.symm
    have hms62_0 := NB687_688.out.symm
    have hms62_2 := NB688_700.out
    have hms62_3 := NB688_701.out
    have hs63 : w57.cell? ⟨gb688, 2, none⟩ = some (.int .i64 0) := (blk_cell BK688.out 2).trans rfl
    have hfs63 := blk_frozen BK688.out 2
    have hns63_0 := NB687_688.out
    have hns63_2 := NB688_700.out.symm
    have hns63_3 := NB688_701.out.symm
    have hms63_0 := NB687_688.out.symm
    have hms63_2 := NB688_700.out
    have hms63_3 := NB688_701.out
    refine skip_ (w1 := ?_) (by rfl) rfl ?_ ?_
    rotate_left
    ·go_simp
     rfl
    refine hK.out _ _ (m3r hHeld (fun e => cs gb688 NB688_700 (cs gb688 NB688_700 (cs gb688 NB688_700 e))) (m3 hHeld.2.2.2 (fun e => cs gb688 NB688_701 (cs gb688 NB688_701 (cs gb688 NB688_701 e))))) (fun hHeld => ?_)
    clear hK K
    refine done_ (by kernel_rfl) ?_
    try go_wp2
    refine bodyPost_ret (results_list (rs := [.tmp 2, .cell 3 27, .cell 4 27]) rfl (by simp) (.tmp (.cell gb687 27 #[.int .i64 t694, .int .i64 t695, .int .i64 t696] (0, 0) _ rfl (bp) Try.underlying27 rfl (by kernel_rfl) (.cell gb688 27 #[.int .i64 t697, .int .i64 t698, .int .i64 t699] (0, 0) _ rfl (bp) Try.underlying27 rfl (by kernel_rfl) .nil)))) rfl ?_
    exact ⟨er, bl⟩

/-! ### spec_AreOneClass: function 29 -/
def spec_AreOneClass.f (k : Nat) (a0 : Int) (a1_0 : Int) (a1_1 : Int) (a1_2 : Int) (a2_0 : Int) (a2_1 : Int) (a2_2 : Int) : Option (Bool × Int) := (spec_l03Code.f k a0 (([(⟨a1_0, a1_1, a1_2⟩ : S27), (⟨a2_0, a2_1, a2_2⟩ : S27)] : List (S27)))).bind fun t711 => (if t711 = 0 then ((spec_l03Primitive.f k a0 a1_0 a1_1 a1_2).bind fun bt712 => ((spec_l03Primitive.f k a0 a2_0 a2_1 a2_2).bind fun bt717 => (some ((bt712.1 == bt717.1 && (bt712.2.1 == bt717.2.1 && (bt712.2.2.1 == bt717.2.2.1))), 0)))) else (some (false, t711)))
set_option maxHeartbeats 8000000 in
set_option maxRecDepth 100000 in
theorem spec_AreOneClass.calls (k : Nat) (a0 : Int) (a1_0 : Int) (a1_1 : Int) (a1_2 : Int) (a2_0 : Int) (a2_1 : Int) (a2_2 : Int) (r1 : Bool) (r2 : Int) (w : World) (h : spec_AreOneClass.f k a0 a1_0 a1_1 a1_2 a2_0 a2_1 a2_2 = some (r1, r2)) :
  Calls Try.prog 29 #[.int .i64 a0, .agg #[.int .i64 a1_0, .int .i64 a1_1, .int .i64 a1_2], .agg #[.int .i64 a2_0, .int .i64 a2_1, .int .i64 a2_2]] w fun e w' => e = .returned (.tuple #[.bool r1, .int .i64 r2]) ∧ Below w.heap.size w w' := by
 have hu27 := Try.underlying27
 have HB := Aside0.mk (Below.refl w.heap.size w)
 unfold spec_AreOneClass.f at h
 have H := h
 clear h
 obtain ⟨y708, hy708⟩ : ∃ y_ : List (S27), y_ = (([(⟨a1_0, a1_1, a1_2⟩ : S27), (⟨a2_0, a2_1, a2_2⟩ : S27)] : List (S27))) := ⟨_, rfl⟩
 replace H : ((spec_l03Code.f k a0 y708).bind fun t711 => (if t711 = 0 then ((spec_l03Primitive.f k a0 a1_0 a1_1 a1_2).bind fun bt712 => ((spec_l03Primitive.f k a0 a2_0 a2_1 a2_2).bind fun bt717 => (some ((bt712.1 == bt717.1 && (bt712.2.1 == bt717.2.1 && (bt712.2.2.1 == bt717.2.2.1))), 0)))) else (some (false, t711)))) = some (r1, r2) := by first | exact hy708 ▸ H | exact H
 have Ny708 := Aside0.mk hy708
 clear hy708
 replace H := zi H
 obtain ⟨t711, A4, H⟩ := H
 try dsimp only at H
 replace H := ii H
 rcases H with ⟨c5, H⟩ | ⟨c5, H⟩
 ·obtain ⟨c5b0, c5b1⟩ := zz c5
  clear c5
  replace H := zi H
  obtain ⟨⟨t712, t713, t714, t715⟩, A6, H⟩ := H
  try dsimp only at H
  replace H := zi H
  obtain ⟨⟨t717, t718, t719, t720⟩, A7, H⟩ := H
  try dsimp only at H
  simp only [Option.some.injEq, Prod.mk.injEq] at H
  obtain ⟨rfl, rfl⟩ := H
  go_enter Try.func29, Try.ntmps29
  go_wp2_with (first | ((with_reducible refine zg 4 rfl ?_); refine z3 4 27 a1_0 a1_1 a1_2 ?_; intro gb706 hg w8 BK706 hb; have GW706 := sg hg; replace HB := bs hb; clear hb hg) | ((with_reducible refine zg 5 rfl ?_); refine z3 5 27 a2_0 a2_1 a2_2 ?_; intro gb707 hg w9 BK707 hb; have GW707 := sg hg; have NB706_707 := nl hg BK706; replace BK706 := bb BK706 hb; replace HB := bs hb; clear hb hg; obtain ⟨hnb10, hnc10⟩ := zn NB706_707; obtain ⟨hcz11_0, hcz11_1, hcz11_2, hfz11_0, hfz11_1, hfz11_2⟩ := cq3 BK706; obtain ⟨hcz12_0, hcz12_1, hcz12_2, hfz12_0, hfz12_1, hfz12_2⟩ := cq3 BK707) | ((with_reducible refine zg 16 rfl ?_); refine Kd.R_lit k27 _ 27 ?hg (N := 16) ?hd (xs := ([(⟨a1_0, a1_1, a1_2⟩ : S27), (⟨a2_0, a2_1, a2_2⟩ : S27)] : List (S27))) (inner := [.int .i64 a1_0, .int .i64 a1_1, .int .i64 a1_2, .int .i64 a2_0, .int .i64 a2_1, .int .i64 a2_2]) (ok := fun _ => True) (okp := fun _ => True) ?hr ?hp (fun _ hk => hk) trivial (Below.refl _ _) (Nat.le_refl _) (by simp) ?_; (case hd => rfl); (case hg => rfl); (case hr => first | (go_simp; done) | (go_simp; rfl)); (case hp => exact (Reps.c3 (show Kd.M k27 _ _ _ (⟨a1_0, a1_1, a1_2⟩ : S27) [.int .i64 a1_0, .int .i64 a1_1, .int .i64 a1_2] from (k27_mkM _ _ _ (⟨a1_0, a1_1, a1_2⟩ : S27) )) (Reps.c3 (show Kd.M k27 _ _ _ (⟨a2_0, a2_1, a2_2⟩ : S27) [.int .i64 a2_0, .int .i64 a2_1, .int .i64 a2_2] from (k27_mkM _ _ _ (⟨a2_0, a2_1, a2_2⟩ : S27) )) (Reps.none _ _)))); intro v709 w13 ho14 hb hg_ hnew_; clear hg_ hnew_; (first | rw [← Ny708.out] at ho14 | (simp only [Int.reduceToNat] at ho14; rw [← Ny708.out] at ho14)); have HO710 := Aside0.mk (Kd.R_lower (Kd.R_newB (Kd.R_newB ho14 (g := gb706) (o := .cells #[.int .i64 a1_0, .int .i64 a1_1, .int .i64 a1_2] 27 (0, 0)) (be BK706)) (g := gb707) (o := .cells #[.int .i64 a2_0, .int .i64 a2_1, .int .i64 a2_2] 27 (0, 0)) (be BK707)) (below_size (bl))); replace BK706 := bb BK706 hb; replace BK707 := bb BK707 hb; replace HB := bs hb; clear hb ho14; obtain ⟨Ao15, co15, eo15⟩ := Kd.R_slice HO710.out; subst eo15) | ((with_reducible refine zf 32 rfl ?_); refine g1 (some 17) Try.func32 #[.int .i64 a0, .slice Ao15 y708.length co15] ?_; (with_reducible refine (spec_l03Code.calls k a0 _ _ y708 t711 _ ?side1 ?side2 A4.out).mono ?_); (case side1 => repeat (first | exact (Kd.R_reads' HO710.out).2.2 | (with_reducible refine Kd.C_alloc ?_ _) | (with_reducible refine Kd.C_drewN ?_ _) | (with_reducible refine Kd.C_drew ?_))); (case side2 => exact (Kd.R_reads' HO710.out).2.1); rintro e w16 ⟨rfl, hb⟩; refine ⟨_, rfl, ?_⟩; replace HO710 := Aside0.mk (Kd.R_below (by (with_reducible repeat (first | apply Kd.R_alloc | apply Kd.R_drewN | apply Kd.R_drew)); exact HO710.out) hb); replace BK706 := bb BK706 hb; replace BK707 := bb BK707 hb; replace HB := bs hb; (try clear hb); obtain ⟨hcz17_0, hcz17_1, hcz17_2, hfz17_0, hfz17_1, hfz17_2⟩ := cq3 BK706) | ((with_reducible refine zf 59 rfl ?_); refine g1 (some 24) Try.func59 #[.int .i64 a0, .agg #[.int .i64 a1_0, .int .i64 a1_1, .int .i64 a1_2]] ?_; (with_reducible refine (spec_l03Primitive.calls k a0 a1_0 a1_1 a1_2 t712 t713 t714 t715 _ A6.out).mono ?_); rintro e w18 ⟨rfl, hb⟩; refine ⟨_, rfl, ?_⟩; replace HO710 := Aside0.mk (Kd.R_below (by (with_reducible repeat (first | apply Kd.R_alloc | apply Kd.R_drewN | apply Kd.R_drew)); exact HO710.out) hb); replace BK706 := bb BK706 hb; replace BK707 := bb BK707 hb; replace HB := bs hb; (try clear hb)) | ((with_reducible refine zg 9 rfl ?_); refine z3 9 27 0 0 0 ?_; intro gb716 hg w19 BK716 hb; have GW716 := sg hg; have NB706_716 := nl hg BK706; have NB707_716 := nl hg BK707; replace HO710 := Aside0.mk (Kd.R_below (Kd.R_elderB (by (with_reducible repeat (first | apply Kd.R_alloc | apply Kd.R_drewN | apply Kd.R_drew)); exact HO710.out) gb716 (Nat.le_of_eq hg.symm)) hb); replace BK706 := bb BK706 hb; replace BK707 := bb BK707 hb; replace HB := bs hb; clear hb hg; obtain ⟨hnb20, hnc20⟩ := zm NB706_716; obtain ⟨hnb21, hnc21⟩ := zm NB707_716; obtain ⟨hcz22_0, hcz22_1, hcz22_2, hfz22_0, hfz22_1, hfz22_2⟩ := cq3 BK716; obtain ⟨hcz23_0, hcz23_1, hcz23_2, hfz23_0, hfz23_1, hfz23_2⟩ := cq3 BK707) | ((with_reducible refine zf 59 rfl ?_); refine g1 (some 30) Try.func59 #[.int .i64 a0, .agg #[.int .i64 a2_0, .int .i64 a2_1, .int .i64 a2_2]] ?_; (with_reducible refine (spec_l03Primitive.calls k a0 a2_0 a2_1 a2_2 t717 t718 t719 t720 _ A7.out).mono ?_); rintro e w24 ⟨rfl, hb⟩; refine ⟨_, rfl, ?_⟩; replace HO710 := Aside0.mk (Kd.R_below (by (with_reducible repeat (first | apply Kd.R_alloc | apply Kd.R_drewN | apply Kd.R_drew)); exact (Kd.R_mono (Kd.R_far (p := ⟨gb716, 2, none⟩) (Kd.R_far (p := ⟨gb716, 1, none⟩) (Kd.R_far (p := ⟨gb716, 0, none⟩) (Kd.R_mono HO710.out (fun k_ hk => (⟨hk, hk.2⟩ : _ ∧ k_ ≠ gb716))) (fun _ hk => hk.2) (.int .i64 t712)) (fun _ hk => hk.2) (.int .i64 t713)) (fun _ hk => hk.2) (.int .i64 t714)) (fun _ h_ => h_.1))) hb); replace BK706 := Aside0.mk (blk_below (g := gb706) (o := .cells #[.int .i64 a1_0, .int .i64 a1_1, .int .i64 a1_2] 27 (0, 0)) (bp) hb); replace BK707 := Aside0.mk (blk_below (g := gb707) (o := .cells #[.int .i64 a2_0, .int .i64 a2_1, .int .i64 a2_2] 27 (0, 0)) (bp) hb); replace BK716 := Aside0.mk (blk_below (g := gb716) (o := .cells #[.int .i64 t712, .int .i64 t713, .int .i64 t714] 27 (0, 0)) (bp) hb); replace HB := bs hb; (try clear hb)) | ((with_reducible refine zg 11 rfl ?_); refine z3 11 27 0 0 0 ?_; intro gb721 hg w25 BK721 hb; have GW721 := sg hg; have NB706_721 := nl hg BK706; have NB707_721 := nl hg BK707; have NB716_721 := nl hg BK716; replace HO710 := Aside0.mk (Kd.R_below (Kd.R_elderB (by (with_reducible repeat (first | apply Kd.R_alloc | apply Kd.R_drewN | apply Kd.R_drew)); exact HO710.out) gb721 (Nat.le_of_eq hg.symm)) hb); replace BK706 := bb BK706 hb; replace BK707 := bb BK707 hb; replace BK716 := bb BK716 hb; replace HB := bs hb; clear hb hg; obtain ⟨hnb26, hnc26⟩ := zm NB706_721; obtain ⟨hnb27, hnc27⟩ := zm NB707_721; obtain ⟨hnb28, hnc28⟩ := zm NB716_721; obtain ⟨hcz29_0, hcz29_1, hcz29_2, hfz29_0, hfz29_1, hfz29_2⟩ := cq3 BK721; obtain ⟨hcz30_0, hcz30_1, hcz30_2, hfz30_0, hfz30_1, hfz30_2⟩ := cq3 BK716))
  go_ret2
  exact ⟨er, bl⟩
 ·obtain ⟨c5b0, c5b1⟩ := zy c5
  simp only [Option.some.injEq, Prod.mk.injEq] at H
  obtain ⟨rfl, rfl⟩ := H
  go_enter Try.func29, Try.ntmps29
  go_wp2_with (first | ((with_reducible refine zg 4 rfl ?_); refine z3 4 27 a1_0 a1_1 a1_2 ?_; intro gb706 hg w31 BK706 hb; have GW706 := sg hg; replace HB := bs hb; clear hb hg) | ((with_reducible refine zg 5 rfl ?_); refine z3 5 27 a2_0 a2_1 a2_2 ?_; intro gb707 hg w32 BK707 hb; have GW707 := sg hg; have NB706_707 := nl hg BK706; replace BK706 := bb BK706 hb; replace HB := bs hb; clear hb hg; obtain ⟨hnb33, hnc33⟩ := zn NB706_707; obtain ⟨hcz34_0, hcz34_1, hcz34_2, hfz34_0, hfz34_1, hfz34_2⟩ := cq3 BK706; obtain ⟨hcz35_0, hcz35_1, hcz35_2, hfz35_0, hfz35_1, hfz35_2⟩ := cq3 BK707) | ((with_reducible refine zg 16 rfl ?_); refine Kd.R_lit k27 _ 27 ?hg (N := 16) ?hd (xs := ([(⟨a1_0, a1_1, a1_2⟩ : S27), (⟨a2_0, a2_1, a2_2⟩ : S27)] : List (S27))) (inner := [.int .i64 a1_0, .int .i64 a1_1, .int .i64 a1_2, .int .i64 a2_0, .int .i64 a2_1, .int .i64 a2_2]) (ok := fun _ => True) (okp := fun _ => True) ?hr ?hp (fun _ hk => hk) trivial (Below.refl _ _) (Nat.le_refl _) (by simp) ?_; (case hd => rfl); (case hg => rfl); (case hr => first | (go_simp; done) | (go_simp; rfl)); (case hp => exact (Reps.c3 (show Kd.M k27 _ _ _ (⟨a1_0, a1_1, a1_2⟩ : S27) [.int .i64 a1_0, .int .i64 a1_1, .int .i64 a1_2] from (k27_mkM _ _ _ (⟨a1_0, a1_1, a1_2⟩ : S27) )) (Reps.c3 (show Kd.M k27 _ _ _ (⟨a2_0, a2_1, a2_2⟩ : S27) [.int .i64 a2_0, .int .i64 a2_1, .int .i64 a2_2] from (k27_mkM _ _ _ (⟨a2_0, a2_1, a2_2⟩ : S27) )) (Reps.none _ _)))); intro v709 w36 ho37 hb hg_ hnew_; clear hg_ hnew_; (first | rw [← Ny708.out] at ho37 | (simp only [Int.reduceToNat] at ho37; rw [← Ny708.out] at ho37)); have HO710 := Aside0.mk (Kd.R_lower (Kd.R_newB (Kd.R_newB ho37 (g := gb706) (o := .cells #[.int .i64 a1_0, .int .i64 a1_1, .int .i64 a1_2] 27 (0, 0)) (be BK706)) (g := gb707) (o := .cells #[.int .i64 a2_0, .int .i64 a2_1, .int .i64 a2_2] 27 (0, 0)) (be BK707)) (below_size (bl))); replace BK706 := bb BK706 hb; replace BK707 := bb BK707 hb; replace HB := bs hb; clear hb ho37; obtain ⟨Ao38, co38, eo38⟩ := Kd.R_slice HO710.out; subst eo38) | ((with_reducible refine zf 32 rfl ?_); refine g1 (some 17) Try.func32 #[.int .i64 a0, .slice Ao38 y708.length co38] ?_; (with_reducible refine (spec_l03Code.calls k a0 _ _ y708 t711 _ ?side1 ?side2 A4.out).mono ?_); (case side1 => repeat (first | exact (Kd.R_reads' HO710.out).2.2 | (with_reducible refine Kd.C_alloc ?_ _) | (with_reducible refine Kd.C_drewN ?_ _) | (with_reducible refine Kd.C_drew ?_))); (case side2 => exact (Kd.R_reads' HO710.out).2.1); rintro e w39 ⟨rfl, hb⟩; refine ⟨_, rfl, ?_⟩; replace HO710 := Aside0.mk (Kd.R_below (by (with_reducible repeat (first | apply Kd.R_alloc | apply Kd.R_drewN | apply Kd.R_drew)); exact HO710.out) hb); replace BK706 := bb BK706 hb; replace BK707 := bb BK707 hb; replace HB := bs hb; (try clear hb)))
  go_ret2
  exact ⟨er, bl⟩

end Go.Proofs.Ytkfodnlogflcpaa.PFnLattices

-- Printed by the kit's print and repaired by a program of this session.
import Derived.Test.YtpmepopagapeiaaPFnBallsx0
import Derived.Test.YtpmepopagapeiaaPFnBallsx1
import Derived.Test.YtpmepopagapeiaaPFnBallsx5
import Derived.Test.YtpmepopagapeiaaPFnBallsx8
namespace Go.Proofs.Ytpmepopagapeiaa.PFnBalls
open Go.RowKit Go.Proofs.YtpmepopagapeiaaW.PrintWords Go.Proofs.YtpmepopagapeiaaW.PrintLast Go.Proofs.YtpmepopagapeiaaW.PrintMore
attribute [local go_sem] max2_int min2_int max_two min_two max_three min_three max_four min_four
set_option linter.unusedVariables false
set_option linter.unusedSimpArgs false

attribute [local go_sem high] eqA27
/-! ### spec_l01Holds: function 136 -/
def spec_l01Holds.f (k : Nat) (a0 : Int) (a1_0 : Int) (a1_1 : Int) (a1_2 : Int) (a2_0 : Int) (a2_1 : Int) (a2_2 : Int) : Option (Bool) := if a1_0 > a2_0 then (some false) else ((spec_l01Power.f k a0 a2_2).bind fun t538 => ((spec_l01Of.f k a0 a2_1 t538 a1_0).bind fun bt539 => (if bt539.2.2.2 = true then (some (bt539.1 == a1_0 && (bt539.2.1 == a1_1 && (bt539.2.2.1 == a1_2)))) else (some false))))
def spec_l01Holds.T3 : Bool × List (List Nat × List Nat) := (true, [([], []), ([], []), ([1], [1]), ([], []), ([], []), ([4], [4]), ([3, 5], [3, 5]), ([], []), ([7], [7]), ([0, 2, 6, 8, 6], [0, 2, 6, 8]), ([9], [9]), ([10], [10]), ([10], [10]), ([], []), ([13, 11, 9, 0, 1, 2, 3, 4, 5, 6, 7, 8, 9, 10, 11, 13], [11, 13]), ([12, 14, 0, 1, 2, 3, 4, 5, 6, 7, 8, 9, 10, 11, 12, 13, 14], [12])])
def spec_l01Holds.B3 : List Nat := [0, 0, 2, 0, 0, 16, 56, 0, 128, 511, 1023, 2047, 2047, 0, 12287, 32767]
theorem spec_l01Holds.tab3 : rtab .any (opsOf Try.f136 3) = spec_l01Holds.T3 := by kernel_rfl
theorem spec_l01Holds.bits3 : waitsOk spec_l01Holds.T3.2 spec_l01Holds.B3 = true := by kernel_rfl
set_option maxHeartbeats 8000000 in
set_option maxRecDepth 100000 in
theorem spec_l01Holds.calls (k : Nat) (a0 : Int) (a1_0 : Int) (a1_1 : Int) (a1_2 : Int) (a2_0 : Int) (a2_1 : Int) (a2_2 : Int) (r : Bool) (w : World) (h : spec_l01Holds.f k a0 a1_0 a1_1 a1_2 a2_0 a2_1 a2_2 = some r) :
  Calls Try.prog 136 #[.int .i64 a0, .agg #[.int .i64 a1_0, .int .i64 a1_1, .int .i64 a1_2], .agg #[.int .i64 a2_0, .int .i64 a2_1, .int .i64 a2_2]] w fun e w' => e = .returned (.bool r) ∧ Below w.heap.size w w' := by
 have hu27 := Try.underlying27
 have HB := Aside0.mk (Below.refl w.heap.size w)
 unfold spec_l01Holds.f at h
 have H := h
 clear h
 replace H := ii H
 rcases H with ⟨c4, H⟩ | ⟨c4, H⟩
 ·have c4b0 := decide_eq_true c4
  clear c4
  obtain rfl := Option.some.inj H
  go_enter Try.func136, Try.ntmps136
  go_wp2_with (first | ((with_reducible refine zg 4 rfl ?_); refine z3 4 27 a1_0 a1_1 a1_2 ?_; intro gb536 hg w5 BK536 hb; have GW536 := sg hg; replace HB := bs hb; clear hb hg) | ((with_reducible refine zg 5 rfl ?_); refine z3 5 27 a2_0 a2_1 a2_2 ?_; intro gb537 hg w6 BK537 hb; have GW537 := sg hg; have NB536_537 := nl hg BK536; replace BK536 := bb BK536 hb; replace HB := bs hb; clear hb hg; obtain ⟨hnb7, hnc7⟩ := zn NB536_537; obtain ⟨hcz8_0, hcz8_1, hcz8_2, hfz8_0, hfz8_1, hfz8_2⟩ := cq3 BK536; obtain ⟨hcz9_0, hcz9_1, hcz9_2, hfz9_0, hfz9_1, hfz9_2⟩ := cq3 BK537))
  go_ret
  exact ⟨er, bl⟩
 ·have c4b0 := decide_eq_false c4
  clear c4
  replace H := zi H
  obtain ⟨t538, A10, H⟩ := H
  try dsimp only at H
  replace H := zi H
  obtain ⟨⟨t539, t540, t541, t542⟩, A11, H⟩ := H
  try dsimp only at H
  by_cases c12 : t542 = true
  ·subst c12
   rw [if_pos rfl] at H
   obtain rfl := Option.some.inj H
   go_enter Try.func136, Try.ntmps136
   try go_wp2_with (first | ((with_reducible refine zg 4 rfl ?_); refine z3 4 27 a1_0 a1_1 a1_2 ?_; intro gb536 hg w13 BK536 hb; have GW536 := sg hg; replace HB := bs hb; clear hb hg) | ((with_reducible refine zg 5 rfl ?_); refine z3 5 27 a2_0 a2_1 a2_2 ?_; intro gb537 hg w14 BK537 hb; have GW537 := sg hg; have NB536_537 := nl hg BK536; replace BK536 := bb BK536 hb; replace HB := bs hb; clear hb hg; obtain ⟨hnb15, hnc15⟩ := zn NB536_537; obtain ⟨hcz16_0, hcz16_1, hcz16_2, hfz16_0, hfz16_1, hfz16_2⟩ := cq3 BK536; obtain ⟨hcz17_0, hcz17_1, hcz17_2, hfz17_0, hfz17_1, hfz17_2⟩ := cq3 BK537))
   replace BK536 := Aside0.mk (blk_drew BK536.out)
   replace BK537 := Aside0.mk (blk_drew BK537.out)
   replace HB := Aside0.mk (below_drew1 HB.out)
   refine sw 16 (fun w' => w'.cell? ⟨gb537, 0, none⟩ = some (.int .i64 a2_0) ∧ w'.cell? ⟨gb537, 1, none⟩ = some (.int .i64 a2_1) ∧ w'.cell? ⟨gb537, 2, none⟩ = some (.int .i64 a2_2) ∧ w'.cell? ⟨gb536, 0, none⟩ = some (.int .i64 a1_0) ∧ w'.cell? ⟨gb536, 1, none⟩ = some (.int .i64 a1_1) ∧ w'.cell? ⟨gb536, 2, none⟩ = some (.int .i64 a1_2)) spec_l01Holds.tab3 spec_l01Holds.bits3 (e3r BK537 (e3 BK536)) (fun hHeld HT_ HW_ => ?_)
   generalize w14.drew = w18 at BK536 BK537 HB hHeld ⊢
   refine pu 0 (some 15) (tA 16 1) HT_ ?_
   refine pu 1 (some 16) (tA 16 3) HT_ ?_
   refine pu 3 (some 18) (tA 16 11) HT_ ?_
   refine pu 4 (some 19) (tA 16 27) HT_ ?_
   refine pu 7 (some 22) (tA 16 155) HT_ ?_
   refine tk6 2 (some 17) (tA 16 159) HT_ HW_ hHeld ?_
   refine tk6 5 (some 20) (tA 16 191) HT_ HW_ hHeld ?_
   refine tk6 8 (some 23) (tA 16 447) HT_ HW_ hHeld ?_
   refine join_ (σ := Nat) 2 (tA 16 16383) (fun s_ => [(21, .int .i64 t538), (24, .tuple #[.agg #[.int .i64 t539, .int .i64 t540, .int .i64 t541], .bool true]), (7, .pointer (some ⟨s_, 0, none⟩)), (14, .tuple #[.agg #[.int .i64 t539, .int .i64 t540, .int .i64 t541], .bool true]), (25, .agg #[.int .i64 t539, .int .i64 t540, .int .i64 t541]), (26, .bool true)]) (fun s_ w' => (w'.cell? ⟨gb537, 0, none⟩ = some (.int .i64 a2_0) ∧ w'.cell? ⟨gb537, 1, none⟩ = some (.int .i64 a2_1) ∧ w'.cell? ⟨gb537, 2, none⟩ = some (.int .i64 a2_2) ∧ w'.cell? ⟨gb536, 0, none⟩ = some (.int .i64 a1_0) ∧ w'.cell? ⟨gb536, 1, none⟩ = some (.int .i64 a1_1) ∧ w'.cell? ⟨gb536, 2, none⟩ = some (.int .i64 a1_2)) ∧ (w'.heap[gb536]? = some (.cells #[.int .i64 a1_0, .int .i64 a1_1, .int .i64 a1_2] 27 (0, 0))) ∧ (w'.heap[gb537]? = some (.cells #[.int .i64 a2_0, .int .i64 a2_1, .int .i64 a2_2] 27 (0, 0))) ∧ (w'.heap[s_]? = some (.cells #[.int .i64 0, .int .i64 0, .int .i64 0] 27 (0, 0))) ∧ (w.heap.size ≤ s_) ∧ (w.heap.size ≤ s_) ∧ (gb536 ≠ s_) ∧ (s_ ≠ gb536) ∧ (gb537 ≠ s_) ∧ (s_ ≠ gb537) ∧ (Below w.heap.size w w')) ?_ ?_
   rotate_left
   ·intro hCont
    refine two_ (i := 6) (j := 13) (Ni := some 21) (Nj := some 7) (tA 16 511) (tA 16 8639) rfl rfl rfl rfl (two_of HT_.out (by kernel_rfl)) (by decide) (by decide) (fun K hK => ?_) (fun K hK => ?_)
    ·skip
     refine gs Try.func96 #[.int .i64 a0, .int .i64 a2_2] ?_
     with_reducible refine (spec_l01Power.calls k a0 a2_2 t538 _ A10.out).mono ?_
     rintro e w' ⟨rfl, ⟨nd, rfl⟩⟩
     refine ⟨_, rfl, ?_⟩
     refine hK.out _ _ (e3r BK537 (e3 BK536)) (fun hHeld => ?_)
     clear hK K
     refine nm (some 21) ?_
     refine two_ (i := 9) (j := 13) (Ni := some 24) (Nj := some 7) (tA 16 1023) (tA 16 8703) rfl rfl rfl rfl (two_of HT_.out (by kernel_rfl)) (by decide) (by decide) (fun K hK => ?_) (fun K hK => ?_)
     ·skip
      refine gs Try.func97 #[.int .i64 a0, .int .i64 a2_1, .int .i64 t538, .int .i64 a1_0] ?_
      with_reducible refine (spec_l01Of.calls k a0 a2_1 t538 a1_0 t539 t540 t541 true _ A11.out).mono ?_
      rintro e w19 ⟨rfl, hb⟩
      refine ⟨_, rfl, ?_⟩
      replace BK536 := bb BK536 hb
      replace BK537 := bb BK537 hb
      replace HB := bs hb
      (try clear hb)
      (try clear hb2)
      (try clear hk)
      (try clear hi)
      refine hK.out _ _ (e3r BK537 (e3 BK536)) (fun hHeld => ?_)
      clear hK K
      refine nm (some 24) ?_
      refine pu 10 (some 14) (tA 16 2047) HT_ ?_
      refine pu 11 (some 25) (tA 16 4095) HT_ ?_
      refine pu 12 (some 26) (tA 16 8191) HT_ ?_
      refine o1 13 (some 7) (tA 16 16383) HT_ (fun K hK => ?_)
      refine box_step ?hg (N := 7) ?hd (cs := #[.int .i64 0, .int .i64 0, .int .i64 0]) (t := 27) ?hr ?_; (case hd => rfl); (case hg => rfl); (case hr => first | (go_simp; done) | (go_simp; rfl))
      intro gb543 hg w20 hbox hb
      have BK543 := Aside0.mk (hbox)
      have GW543 := Aside0.mk ((by rw [hg]; exact (below_size (bl)) : w.heap.size ≤ gb543))
      have GE543 := Aside0.mk ((by rw [hg]; exact (below_size (bl)) : w.heap.size ≤ gb543))
      have NB536_543 := nl hg BK536
      have NB543_536 := ng hg BK536
      have NB537_543 := nl hg BK537
      have NB543_537 := ng hg BK537
      replace BK536 := bb BK536 hb
      replace BK537 := bb BK537 hb
      replace HB := bs hb
      clear hb hg
      refine hK.out _ _ (e3r BK537 (e3 BK536)) (fun hHeld => ?_)
      clear hK K
      refine nm (some 7) ?_
      exact norm_ (by simp only [putAll, Act.put, zq, zr, zt]) (hCont (gb543) _ ⟨hHeld, (be BK536), (be BK537), (be BK543), GW543.out, GE543.out, NB536_543.out, NB543_536.out, NB537_543.out, NB543_537.out, (bl)⟩)
     ·skip
      refine box_step ?hg (N := 7) ?hd (cs := #[.int .i64 0, .int .i64 0, .int .i64 0]) (t := 27) ?hr ?_; (case hd => rfl); (case hg => rfl); (case hr => first | (go_simp; done) | (go_simp; rfl))
      intro gb543 hg w19 hbox hb
      have BK543 := Aside0.mk (hbox)
      have GW543 := Aside0.mk ((by rw [hg]; exact (below_size (bl)) : w.heap.size ≤ gb543))
      have GE543 := Aside0.mk ((by rw [hg]; exact (below_size (bl)) : w.heap.size ≤ gb543))
      have NB536_543 := nl hg BK536
      have NB543_536 := ng hg BK536
      have NB537_543 := nl hg BK537
      have NB543_537 := ng hg BK537
      replace BK536 := bb BK536 hb
      replace BK537 := bb BK537 hb
      replace HB := bs hb
      clear hb hg
      refine hK.out _ _ (e3r BK537 (e3 BK536)) (fun hHeld => ?_)
      clear hK K
      refine nm (some 7) ?_
      refine o1 9 (some 24) (tA 16 9215) HT_ (fun K hK => ?_)
      refine gs Try.func97 #[.int .i64 a0, .int .i64 a2_1, .int .i64 t538, .int .i64 a1_0] ?_
      with_reducible refine (spec_l01Of.calls k a0 a2_1 t538 a1_0 t539 t540 t541 true _ A11.out).mono ?_
      rintro e w20 ⟨rfl, hb⟩
      refine ⟨_, rfl, ?_⟩
      replace BK536 := bb BK536 hb
      replace BK537 := bb BK537 hb
      replace BK543 := bb BK543 hb
      replace HB := bs hb
      (try clear hb)
      (try clear hb2)
      (try clear hk)
      (try clear hi)
      refine hK.out _ _ (e3r BK537 (e3 BK536)) (fun hHeld => ?_)
      clear hK K
      refine nm (some 24) ?_
      refine pu 10 (some 14) (tA 16 10239) HT_ ?_
      refine pu 11 (some 25) (tA 16 12287) HT_ ?_
      refine pu 12 (some 26) (tA 16 16383) HT_ ?_
      exact norm_ (by simp only [putAll, Act.put, zq, zr, zt]) (hCont (gb543) _ ⟨hHeld, (be BK536), (be BK537), (be BK543), GW543.out, GE543.out, NB536_543.out, NB543_536.out, NB537_543.out, NB543_537.out, (bl)⟩)
    ·skip
     refine box_step ?hg (N := 7) ?hd (cs := #[.int .i64 0, .int .i64 0, .int .i64 0]) (t := 27) ?hr ?_; (case hd => rfl); (case hg => rfl); (case hr => first | (go_simp; done) | (go_simp; rfl))
     intro gb543 hg w19 hbox hb
     have BK543 := Aside0.mk (hbox)
     have GW543 := Aside0.mk ((by rw [hg]; exact (below_size (bl)) : w.heap.size ≤ gb543))
     have GE543 := Aside0.mk ((by rw [hg]; exact (below_size (bl)) : w.heap.size ≤ gb543))
     have NB536_543 := nl hg BK536
     have NB543_536 := ng hg BK536
     have NB537_543 := nl hg BK537
     have NB543_537 := ng hg BK537
     replace BK536 := bb BK536 hb
     replace BK537 := bb BK537 hb
     replace HB := bs hb
     clear hb hg
     refine hK.out _ _ (e3r BK537 (e3 BK536)) (fun hHeld => ?_)
     clear hK K
     refine nm (some 7) ?_
     refine o1 6 (some 21) (tA 16 8703) HT_ (fun K hK => ?_)
     refine gs Try.func96 #[.int .i64 a0, .int .i64 a2_2] ?_
     with_reducible refine (spec_l01Power.calls k a0 a2_2 t538 _ A10.out).mono ?_
     rintro e w' ⟨rfl, ⟨nd, rfl⟩⟩
     refine ⟨_, rfl, ?_⟩
     refine hK.out _ _ (e3r BK537 (e3 BK536)) (fun hHeld => ?_)
     clear hK K
     refine nm (some 21) ?_
     refine o1 9 (some 24) (tA 16 9215) HT_ (fun K hK => ?_)
     refine gs Try.func97 #[.int .i64 a0, .int .i64 a2_1, .int .i64 t538, .int .i64 a1_0] ?_
     with_reducible refine (spec_l01Of.calls k a0 a2_1 t538 a1_0 t539 t540 t541 true _ A11.out).mono ?_
     rintro e w20 ⟨rfl, hb⟩
     refine ⟨_, rfl, ?_⟩
     replace BK536 := bb BK536 hb
     replace BK537 := bb BK537 hb
     replace BK543 := bb BK543 hb
     replace HB := bs hb
     (try clear hb)
     (try clear hb2)
     (try clear hk)
     (try clear hi)
     refine hK.out _ _ (e3r BK537 (e3 BK536)) (fun hHeld => ?_)
     clear hK K
     refine nm (some 24) ?_
     refine pu 10 (some 14) (tA 16 10239) HT_ ?_
     refine pu 11 (some 25) (tA 16 12287) HT_ ?_
     refine pu 12 (some 26) (tA 16 16383) HT_ ?_
     exact norm_ (by simp only [putAll, Act.put, zq, zr, zt]) (hCont (gb543) _ ⟨hHeld, (be BK536), (be BK537), (be BK543), GW543.out, GE543.out, NB536_543.out, NB543_536.out, NB537_543.out, NB543_537.out, (bl)⟩)
   rintro gb543 w21 ⟨hS_, h0_, h1_, h2_, h3_, h4_, h5_, h6_, h7_, h8_, h9_⟩
   have n0_ : Aside0 (w21.heap[gb536]? = some (.cells #[.int .i64 a1_0, .int .i64 a1_1, .int .i64 a1_2] 27 (0, 0))) := ⟨h0_⟩
   have n1_ : Aside0 (w21.heap[gb537]? = some (.cells #[.int .i64 a2_0, .int .i64 a2_1, .int .i64 a2_2] 27 (0, 0))) := ⟨h1_⟩
   have n2_ : Aside0 (w21.heap[gb543]? = some (.cells #[.int .i64 0, .int .i64 0, .int .i64 0] 27 (0, 0))) := ⟨h2_⟩
   have n3_ : Aside0 (w.heap.size ≤ gb543) := ⟨h3_⟩
   have n4_ : Aside0 (w.heap.size ≤ gb543) := ⟨h4_⟩
   have n5_ : Aside0 (gb536 ≠ gb543) := ⟨h5_⟩
   have n6_ : Aside0 (gb543 ≠ gb536) := ⟨h6_⟩
   have n7_ : Aside0 (gb537 ≠ gb543) := ⟨h7_⟩
   have n8_ : Aside0 (gb543 ≠ gb537) := ⟨h8_⟩
   have n9_ : Aside0 (Below w.heap.size w w21) := ⟨h9_⟩
   clear BK536
   clear BK537
   clear HB
   clear h0_ h1_ h2_ h3_ h4_ h5_ h6_ h7_ h8_ h9_
   have BK536 := n0_
   have BK537 := n1_
   have BK543 := n2_
   have GW543 := n3_
   have GE543 := n4_
   have NB536_543 := n5_
   have NB543_536 := n6_
   have NB537_543 := n7_
   have NB543_537 := n8_
   have HB := n9_
   clear n0_ n1_ n2_ n3_ n4_ n5_ n6_ n7_ n8_ n9_
   have hHeld : w21.cell? ⟨gb537, 0, none⟩ = some (.int .i64 a2_0) ∧ w21.cell? ⟨gb537, 1, none⟩ = some (.int .i64 a2_1) ∧ w21.cell? ⟨gb537, 2, none⟩ = some (.int .i64 a2_2) ∧ w21.cell? ⟨gb536, 0, none⟩ = some (.int .i64 a1_0) ∧ w21.cell? ⟨gb536, 1, none⟩ = some (.int .i64 a1_1) ∧ w21.cell? ⟨gb536, 2, none⟩ = some (.int .i64 a1_2) := hS_
   refine norm_ (a' := ?_) ?_ ?_
   rotate_left
   ·simp only [putAll, Act.put, zq, zr, zt]
    rfl
   refine o1 14 none (tA 16 32767) HT_ (fun K hK => ?_)
   have hs22 : w21.cell? ⟨gb543, 0, none⟩ = some (.int .i64 0) := (blk_cell BK543.out 0).trans rfl
   have hfs22 := blk_frozen BK543.out 0
   have hns22_0 := NB536_543.out
   have hns22_1 := NB537_543.out
   have hms22_0 := NB543_536.out
   have hms22_1 := NB543_537.out
   have hs23 : w21.cell? ⟨gb543, 1, none⟩ = some (.int .i64 0) := (blk_cell BK543.out 1).trans rfl
   have hfs23 := blk_frozen BK543.out 1
   have hns23_0 := NB536_543.out
   have hns23_1 := NB537_543.out
   have hms23_0 := NB543_536.out
   have hms23_1 := NB543_537.out
   have hs24 : w21.cell? ⟨gb543, 2, none⟩ = some (.int .i64 0) := (blk_cell BK543.out 2).trans rfl
   have hfs24 := blk_frozen BK543.out 2
   have hns24_0 := NB536_543.out
   have hns24_1 := NB537_543.out
   have hms24_0 := NB543_536.out
   have hms24_1 := NB543_537.out
   refine skip_ (w1 := ?_) (by rfl) rfl ?_ ?_
   rotate_left
   ·go_simp
    rfl
   refine hK.out _ _ (m3r hHeld (fun e => cf gb543 NB537_543 (cf gb543 NB537_543 (cf gb543 NB537_543 e))) (m3 hHeld.2.2.2 (fun e => cf gb543 NB536_543 (cf gb543 NB536_543 (cf gb543 NB536_543 e))))) (fun hHeld => ?_)
   clear hK K
   refine pu 15 (some 8) (tA 16 65535) HT_ ?_
   refine done_ (done_of HT_.out (by kernel_rfl)) ?_
   have hnb25 := NB543_536.out
   have hnc25 := NB536_543.out
   have hnb26 := NB543_537.out
   have hnc26 := NB537_543.out
   obtain ⟨hcz27_0, hcz27_1, hcz27_2, hfz27_0, hfz27_1, hfz27_2⟩ := cq3 BK543
   obtain ⟨hcz28_0, hcz28_1, hcz28_2, hfz28_0, hfz28_1, hfz28_2⟩ := cq3 BK536
   try go_wp2
   go_ret
   exact ⟨er, bl⟩
  ·replace c12 := Bool.eq_false_iff.mpr c12
   subst c12
   have H1 : (some false) = some r := by rw [if_neg (show ¬ (false = true) by decide)] at H; exact H
   clear H
   have H := H1
   clear H1
   obtain rfl := Option.some.inj H
   go_enter Try.func136, Try.ntmps136
   try go_wp2_with (first | ((with_reducible refine zg 4 rfl ?_); refine z3 4 27 a1_0 a1_1 a1_2 ?_; intro gb536 hg w29 BK536 hb; have GW536 := sg hg; replace HB := bs hb; clear hb hg) | ((with_reducible refine zg 5 rfl ?_); refine z3 5 27 a2_0 a2_1 a2_2 ?_; intro gb537 hg w30 BK537 hb; have GW537 := sg hg; have NB536_537 := nl hg BK536; replace BK536 := bb BK536 hb; replace HB := bs hb; clear hb hg; obtain ⟨hnb31, hnc31⟩ := zn NB536_537; obtain ⟨hcz32_0, hcz32_1, hcz32_2, hfz32_0, hfz32_1, hfz32_2⟩ := cq3 BK536; obtain ⟨hcz33_0, hcz33_1, hcz33_2, hfz33_0, hfz33_1, hfz33_2⟩ := cq3 BK537))
   replace BK536 := Aside0.mk (blk_drew BK536.out)
   replace BK537 := Aside0.mk (blk_drew BK537.out)
   replace HB := Aside0.mk (below_drew1 HB.out)
   refine sw 16 (fun w' => w'.cell? ⟨gb537, 0, none⟩ = some (.int .i64 a2_0) ∧ w'.cell? ⟨gb537, 1, none⟩ = some (.int .i64 a2_1) ∧ w'.cell? ⟨gb537, 2, none⟩ = some (.int .i64 a2_2) ∧ w'.cell? ⟨gb536, 0, none⟩ = some (.int .i64 a1_0) ∧ w'.cell? ⟨gb536, 1, none⟩ = some (.int .i64 a1_1) ∧ w'.cell? ⟨gb536, 2, none⟩ = some (.int .i64 a1_2)) spec_l01Holds.tab3 spec_l01Holds.bits3 (e3r BK537 (e3 BK536)) (fun hHeld HT_ HW_ => ?_)
   generalize w30.drew = w34 at BK536 BK537 HB hHeld ⊢
   refine pu 0 (some 15) (tA 16 1) HT_ ?_
   refine pu 1 (some 16) (tA 16 3) HT_ ?_
   refine pu 3 (some 18) (tA 16 11) HT_ ?_
   refine pu 4 (some 19) (tA 16 27) HT_ ?_
   refine pu 7 (some 22) (tA 16 155) HT_ ?_
   refine tk6 2 (some 17) (tA 16 159) HT_ HW_ hHeld ?_
   refine tk6 5 (some 20) (tA 16 191) HT_ HW_ hHeld ?_
   refine tk6 8 (some 23) (tA 16 447) HT_ HW_ hHeld ?_
   refine join_ (σ := Nat) 2 (tA 16 16383) (fun s_ => [(21, .int .i64 t538), (24, .tuple #[.agg #[.int .i64 t539, .int .i64 t540, .int .i64 t541], .bool false]), (7, .pointer (some ⟨s_, 0, none⟩)), (14, .tuple #[.agg #[.int .i64 t539, .int .i64 t540, .int .i64 t541], .bool false]), (25, .agg #[.int .i64 t539, .int .i64 t540, .int .i64 t541]), (26, .bool false)]) (fun s_ w' => (w'.cell? ⟨gb537, 0, none⟩ = some (.int .i64 a2_0) ∧ w'.cell? ⟨gb537, 1, none⟩ = some (.int .i64 a2_1) ∧ w'.cell? ⟨gb537, 2, none⟩ = some (.int .i64 a2_2) ∧ w'.cell? ⟨gb536, 0, none⟩ = some (.int .i64 a1_0) ∧ w'.cell? ⟨gb536, 1, none⟩ = some (.int .i64 a1_1) ∧ w'.cell? ⟨gb536, 2, none⟩ = some (.int .i64 a1_2)) ∧ (w'.heap[gb536]? = some (.cells #[.int .i64 a1_0, .int .i64 a1_1, .int .i64 a1_2] 27 (0, 0))) ∧ (w'.heap[gb537]? = some (.cells #[.int .i64 a2_0, .int .i64 a2_1, .int .i64 a2_2] 27 (0, 0))) ∧ (w'.heap[s_]? = some (.cells #[.int .i64 0, .int .i64 0, .int .i64 0] 27 (0, 0))) ∧ (w.heap.size ≤ s_) ∧ (w.heap.size ≤ s_) ∧ (gb536 ≠ s_) ∧ (s_ ≠ gb536) ∧ (gb537 ≠ s_) ∧ (s_ ≠ gb537) ∧ (Below w.heap.size w w')) ?_ ?_
   rotate_left
   ·intro hCont
    refine two_ (i := 6) (j := 13) (Ni := some 21) (Nj := some 7) (tA 16 511) (tA 16 8639) rfl rfl rfl rfl (two_of HT_.out (by kernel_rfl)) (by decide) (by decide) (fun K hK => ?_) (fun K hK => ?_)
    ·skip
     refine gs Try.func96 #[.int .i64 a0, .int .i64 a2_2] ?_
     with_reducible refine (spec_l01Power.calls k a0 a2_2 t538 _ A10.out).mono ?_
     rintro e w' ⟨rfl, ⟨nd, rfl⟩⟩
     refine ⟨_, rfl, ?_⟩
     refine hK.out _ _ (e3r BK537 (e3 BK536)) (fun hHeld => ?_)
     clear hK K
     refine nm (some 21) ?_
     refine two_ (i := 9) (j := 13) (Ni := some 24) (Nj := some 7) (tA 16 1023) (tA 16 8703) rfl rfl rfl rfl (two_of HT_.out (by kernel_rfl)) (by decide) (by decide) (fun K hK => ?_) (fun K hK => ?_)
     ·skip
      refine gs Try.func97 #[.int .i64 a0, .int .i64 a2_1, .int .i64 t538, .int .i64 a1_0] ?_
      with_reducible refine (spec_l01Of.calls k a0 a2_1 t538 a1_0 t539 t540 t541 false _ A11.out).mono ?_
      rintro e w35 ⟨rfl, hb⟩
      refine ⟨_, rfl, ?_⟩
      replace BK536 := bb BK536 hb
      replace BK537 := bb BK537 hb
      replace HB := bs hb
      (try clear hb)
      (try clear hb2)
      (try clear hk)
      (try clear hi)
      refine hK.out _ _ (e3r BK537 (e3 BK536)) (fun hHeld => ?_)
      clear hK K
      refine nm (some 24) ?_
      refine pu 10 (some 14) (tA 16 2047) HT_ ?_
      refine pu 11 (some 25) (tA 16 4095) HT_ ?_
      refine pu 12 (some 26) (tA 16 8191) HT_ ?_
      refine o1 13 (some 7) (tA 16 16383) HT_ (fun K hK => ?_)
      refine box_step ?hg (N := 7) ?hd (cs := #[.int .i64 0, .int .i64 0, .int .i64 0]) (t := 27) ?hr ?_; (case hd => rfl); (case hg => rfl); (case hr => first | (go_simp; done) | (go_simp; rfl))
      intro gb543 hg w36 hbox hb
      have BK543 := Aside0.mk (hbox)
      have GW543 := Aside0.mk ((by rw [hg]; exact (below_size (bl)) : w.heap.size ≤ gb543))
      have GE543 := Aside0.mk ((by rw [hg]; exact (below_size (bl)) : w.heap.size ≤ gb543))
      have NB536_543 := nl hg BK536
      have NB543_536 := ng hg BK536
      have NB537_543 := nl hg BK537
      have NB543_537 := ng hg BK537
      replace BK536 := bb BK536 hb
      replace BK537 := bb BK537 hb
      replace HB := bs hb
      clear hb hg
      refine hK.out _ _ (e3r BK537 (e3 BK536)) (fun hHeld => ?_)
      clear hK K
      refine nm (some 7) ?_
      exact norm_ (by simp only [putAll, Act.put, zq, zr, zt]) (hCont (gb543) _ ⟨hHeld, (be BK536), (be BK537), (be BK543), GW543.out, GE543.out, NB536_543.out, NB543_536.out, NB537_543.out, NB543_537.out, (bl)⟩)
     ·skip
      refine box_step ?hg (N := 7) ?hd (cs := #[.int .i64 0, .int .i64 0, .int .i64 0]) (t := 27) ?hr ?_; (case hd => rfl); (case hg => rfl); (case hr => first | (go_simp; done) | (go_simp; rfl))
      intro gb543 hg w35 hbox hb
      have BK543 := Aside0.mk (hbox)
      have GW543 := Aside0.mk ((by rw [hg]; exact (below_size (bl)) : w.heap.size ≤ gb543))
      have GE543 := Aside0.mk ((by rw [hg]; exact (below_size (bl)) : w.heap.size ≤ gb543))
      have NB536_543 := nl hg BK536
      have NB543_536 := ng hg BK536
      have NB537_543 := nl hg BK537
      have NB543_537 := ng hg BK537
      replace BK536 := bb BK536 hb
      replace BK537 := bb BK537 hb
      replace HB := bs hb
      clear hb hg
      refine hK.out _ _ (e3r BK537 (e3 BK536)) (fun hHeld => ?_)
      clear hK K
      refine nm (some 7) ?_
      refine o1 9 (some 24) (tA 16 9215) HT_ (fun K hK => ?_)
      refine gs Try.func97 #[.int .i64 a0, .int .i64 a2_1, .int .i64 t538, .int .i64 a1_0] ?_
      with_reducible refine (spec_l01Of.calls k a0 a2_1 t538 a1_0 t539 t540 t541 false _ A11.out).mono ?_
      rintro e w36 ⟨rfl, hb⟩
      refine ⟨_, rfl, ?_⟩
      replace BK536 := bb BK536 hb
      replace BK537 := bb BK537 hb
      replace BK543 := bb BK543 hb
      replace HB := bs hb
      (try clear hb)
      (try clear hb2)
      (try clear hk)
      (try clear hi)
      refine hK.out _ _ (e3r BK537 (e3 BK536)) (fun hHeld => ?_)
      clear hK K
      refine nm (some 24) ?_
      refine pu 10 (some 14) (tA 16 10239) HT_ ?_
      refine pu 11 (some 25) (tA 16 12287) HT_ ?_
      refine pu 12 (some 26) (tA 16 16383) HT_ ?_
      exact norm_ (by simp only [putAll, Act.put, zq, zr, zt]) (hCont (gb543) _ ⟨hHeld, (be BK536), (be BK537), (be BK543), GW543.out, GE543.out, NB536_543.out, NB543_536.out, NB537_543.out, NB543_537.out, (bl)⟩)
    ·skip
     refine box_step ?hg (N := 7) ?hd (cs := #[.int .i64 0, .int .i64 0, .int .i64 0]) (t := 27) ?hr ?_; (case hd => rfl); (case hg => rfl); (case hr => first | (go_simp; done) | (go_simp; rfl))
     intro gb543 hg w35 hbox hb
     have BK543 := Aside0.mk (hbox)
     have GW543 := Aside0.mk ((by rw [hg]; exact (below_size (bl)) : w.heap.size ≤ gb543))
     have GE543 := Aside0.mk ((by rw [hg]; exact (below_size (bl)) : w.heap.size ≤ gb543))
     have NB536_543 := nl hg BK536
     have NB543_536 := ng hg BK536
     have NB537_543 := nl hg BK537
     have NB543_537 := ng hg BK537
     replace BK536 := bb BK536 hb
     replace BK537 := bb BK537 hb
     replace HB := bs hb
     clear hb hg
     refine hK.out _ _ (e3r BK537 (e3 BK536)) (fun hHeld => ?_)
     clear hK K
     refine nm (some 7) ?_
     refine o1 6 (some 21) (tA 16 8703) HT_ (fun K hK => ?_)
     refine gs Try.func96 #[.int .i64 a0, .int .i64 a2_2] ?_
     with_reducible refine (spec_l01Power.calls k a0 a2_2 t538 _ A10.out).mono ?_
     rintro e w' ⟨rfl, ⟨nd, rfl⟩⟩
     refine ⟨_, rfl, ?_⟩
     refine hK.out _ _ (e3r BK537 (e3 BK536)) (fun hHeld => ?_)
     clear hK K
     refine nm (some 21) ?_
     refine o1 9 (some 24) (tA 16 9215) HT_ (fun K hK => ?_)
     refine gs Try.func97 #[.int .i64 a0, .int .i64 a2_1, .int .i64 t538, .int .i64 a1_0] ?_
     with_reducible refine (spec_l01Of.calls k a0 a2_1 t538 a1_0 t539 t540 t541 false _ A11.out).mono ?_
     rintro e w36 ⟨rfl, hb⟩
     refine ⟨_, rfl, ?_⟩
     replace BK536 := bb BK536 hb
     replace BK537 := bb BK537 hb
     replace BK543 := bb BK543 hb
     replace HB := bs hb
     (try clear hb)
     (try clear hb2)
     (try clear hk)
     (try clear hi)
     refine hK.out _ _ (e3r BK537 (e3 BK536)) (fun hHeld => ?_)
     clear hK K
     refine nm (some 24) ?_
     refine pu 10 (some 14) (tA 16 10239) HT_ ?_
     refine pu 11 (some 25) (tA 16 12287) HT_ ?_
     refine pu 12 (some 26) (tA 16 16383) HT_ ?_
     exact norm_ (by simp only [putAll, Act.put, zq, zr, zt]) (hCont (gb543) _ ⟨hHeld, (be BK536), (be BK537), (be BK543), GW543.out, GE543.out, NB536_543.out, NB543_536.out, NB537_543.out, NB543_537.out, (bl)⟩)
   rintro gb543 w37 ⟨hS_, h0_, h1_, h2_, h3_, h4_, h5_, h6_, h7_, h8_, h9_⟩
   have n0_ : Aside0 (w37.heap[gb536]? = some (.cells #[.int .i64 a1_0, .int .i64 a1_1, .int .i64 a1_2] 27 (0, 0))) := ⟨h0_⟩
   have n1_ : Aside0 (w37.heap[gb537]? = some (.cells #[.int .i64 a2_0, .int .i64 a2_1, .int .i64 a2_2] 27 (0, 0))) := ⟨h1_⟩
   have n2_ : Aside0 (w37.heap[gb543]? = some (.cells #[.int .i64 0, .int .i64 0, .int .i64 0] 27 (0, 0))) := ⟨h2_⟩
   have n3_ : Aside0 (w.heap.size ≤ gb543) := ⟨h3_⟩
   have n4_ : Aside0 (w.heap.size ≤ gb543) := ⟨h4_⟩
   have n5_ : Aside0 (gb536 ≠ gb543) := ⟨h5_⟩
   have n6_ : Aside0 (gb543 ≠ gb536) := ⟨h6_⟩
   have n7_ : Aside0 (gb537 ≠ gb543) := ⟨h7_⟩
   have n8_ : Aside0 (gb543 ≠ gb537) := ⟨h8_⟩
   have n9_ : Aside0 (Below w.heap.size w w37) := ⟨h9_⟩
   clear BK536
   clear BK537
   clear HB
   clear h0_ h1_ h2_ h3_ h4_ h5_ h6_ h7_ h8_ h9_
   have BK536 := n0_
   have BK537 := n1_
   have BK543 := n2_
   have GW543 := n3_
   have GE543 := n4_
   have NB536_543 := n5_
   have NB543_536 := n6_
   have NB537_543 := n7_
   have NB543_537 := n8_
   have HB := n9_
   clear n0_ n1_ n2_ n3_ n4_ n5_ n6_ n7_ n8_ n9_
   have hHeld : w37.cell? ⟨gb537, 0, none⟩ = some (.int .i64 a2_0) ∧ w37.cell? ⟨gb537, 1, none⟩ = some (.int .i64 a2_1) ∧ w37.cell? ⟨gb537, 2, none⟩ = some (.int .i64 a2_2) ∧ w37.cell? ⟨gb536, 0, none⟩ = some (.int .i64 a1_0) ∧ w37.cell? ⟨gb536, 1, none⟩ = some (.int .i64 a1_1) ∧ w37.cell? ⟨gb536, 2, none⟩ = some (.int .i64 a1_2) := hS_
   refine norm_ (a' := ?_) ?_ ?_
   rotate_left
   ·simp only [putAll, Act.put, zq, zr, zt]
    rfl
   refine o1 14 none (tA 16 32767) HT_ (fun K hK => ?_)
   have hs38 : w37.cell? ⟨gb543, 0, none⟩ = some (.int .i64 0) := (blk_cell BK543.out 0).trans rfl
   have hfs38 := blk_frozen BK543.out 0
   have hns38_0 := NB536_543.out
   have hns38_1 := NB537_543.out
   have hms38_0 := NB543_536.out
   have hms38_1 := NB543_537.out
   have hs39 : w37.cell? ⟨gb543, 1, none⟩ = some (.int .i64 0) := (blk_cell BK543.out 1).trans rfl
   have hfs39 := blk_frozen BK543.out 1
   have hns39_0 := NB536_543.out
   have hns39_1 := NB537_543.out
   have hms39_0 := NB543_536.out
   have hms39_1 := NB543_537.out
   have hs40 : w37.cell? ⟨gb543, 2, none⟩ = some (.int .i64 0) := (blk_cell BK543.out 2).trans rfl
   have hfs40 := blk_frozen BK543.out 2
   have hns40_0 := NB536_543.out
   have hns40_1 := NB537_543.out
   have hms40_0 := NB543_536.out
   have hms40_1 := NB543_537.out
   refine skip_ (w1 := ?_) (by rfl) rfl ?_ ?_
   rotate_left
   ·go_simp
    rfl
   refine hK.out _ _ (m3r hHeld (fun e => cf gb543 NB537_543 (cf gb543 NB537_543 (cf gb543 NB537_543 e))) (m3 hHeld.2.2.2 (fun e => cf gb543 NB536_543 (cf gb543 NB536_543 (cf gb543 NB536_543 e))))) (fun hHeld => ?_)
   clear hK K
   refine pu 15 (some 8) (tA 16 65535) HT_ ?_
   refine done_ (done_of HT_.out (by kernel_rfl)) ?_
   try go_wp2
   go_ret
   exact ⟨er, bl⟩

end Go.Proofs.Ytpmepopagapeiaa.PFnBalls

-- Printed by the kit's print and repaired by a program of this session.
import Derived.Test.YtpmepopagapeiaaPFnTreeDistancesx0
import Derived.Test.YtpmepopagapeiaaPFnTreeDistancesx2
import Derived.Test.YtpmepopagapeiaaPFnTreeDistancesx3
namespace Go.Proofs.Ytpmepopagapeiaa.PFnTreeDistances
open Go.RowKit Go.Proofs.YtpmepopagapeiaaW.PrintWords Go.Proofs.YtpmepopagapeiaaW.PrintLast Go.Proofs.YtpmepopagapeiaaW.PrintMore
attribute [local go_sem] max2_int min2_int max_two min_two max_three min_three max_four min_four   -- for this text's walks alone
set_option linter.unusedVariables false
set_option linter.unusedSimpArgs false

/-! ### spec_JoinOf: function 48 -/
def spec_JoinOf.f (k : Nat) (a0 : Int) (a1_0 : Int) (a1_1 : Int) (a1_2 : Int) (a2_0 : Int) (a2_1 : Int) (a2_2 : Int) : Option (Int × Int × Int × Int) := (spec_l01Code.f k a0 (([(⟨a1_0, a1_1, a1_2⟩ : S27), (⟨a2_0, a2_1, a2_2⟩ : S27)] : List (S27)))).bind fun t504 => (if t504 = 0 then ((spec_l02Join.f k a0 a1_0 a1_1 a1_2 a2_0 a2_1 a2_2).bind fun t505 => ((spec_l02Up.f k a0 a1_0 a1_1 a1_2 t505).bind fun bt506 => (if bt506.2.2.2 = true then (some (bt506.1, bt506.2.1, bt506.2.2.1, 0)) else (some (0, 0, 0, 3))))) else (some (0, 0, 0, t504)))
theorem spec_JoinOf.mono : ∀ a0 a1 a2 a3 a4 a5 a6 k, LeO (spec_JoinOf.f k a0 a1 a2 a3 a4 a5 a6) (spec_JoinOf.f (k + 1) a0 a1 a2 a3 a4 a5 a6) := by
 intro a0 a1 a2 a3 a4 a5 a6 k
 unfold spec_JoinOf.f
 repeat' first
   | (with_reducible exact spec_l01Code.mono _ _ _)
   | (with_reducible exact spec_l02Join.mono _ _ _ _ _ _ _ _)
   | (with_reducible exact spec_l02Up.mono _ _ _ _ _ _)
   | (with_reducible exact LeO.refl _)
   | (with_reducible exact LeO.none _)
   | (with_reducible refine LeO.ite ?_ ?_)
   | (with_reducible refine LeO.bind ?_ (fun _ => ?_))
   | refine LeO.ite ?_ ?_
   | refine LeO.bind ?_ (fun _ => ?_)
def spec_JoinOf.T4 : Bool × List (List Nat × List Nat) := (true, [([], []), ([], []), ([], []), ([], []), ([], []), ([2, 3, 4], [2, 3, 4]), ([0, 1, 5, 5], [0, 1, 5]), ([6], [6]), ([7], [7]), ([7], [7]), ([], []), ([10, 8, 6, 0, 1, 2, 3, 4, 5, 6, 7, 8, 10], [8, 10]), ([9, 11, 0, 1, 2, 3, 4, 5, 6, 7, 8, 9, 10, 11], [9])])
def spec_JoinOf.B4 : List Nat := [0, 0, 0, 0, 0, 28, 63, 127, 255, 255, 0, 1535, 4095]
theorem spec_JoinOf.tab4 : rtab .any (opsOf Try.f48 4) = spec_JoinOf.T4 := by kernel_rfl
theorem spec_JoinOf.bits4 : waitsOk spec_JoinOf.T4.2 spec_JoinOf.B4 = true := by kernel_rfl
set_option maxHeartbeats 8000000 in
set_option maxRecDepth 100000 in
theorem spec_JoinOf.calls (k : Nat) (a0 : Int) (a1_0 : Int) (a1_1 : Int) (a1_2 : Int) (a2_0 : Int) (a2_1 : Int) (a2_2 : Int) (r1 : Int) (r2 : Int) (r3 : Int) (r4 : Int) (w : World) (h : spec_JoinOf.f k a0 a1_0 a1_1 a1_2 a2_0 a2_1 a2_2 = some (r1, r2, r3, r4)) :
  Calls Try.prog 48 #[.int .i64 a0, .agg #[.int .i64 a1_0, .int .i64 a1_1, .int .i64 a1_2], .agg #[.int .i64 a2_0, .int .i64 a2_1, .int .i64 a2_2]] w fun e w' => e = .returned (.tuple #[.agg #[.int .i64 r1, .int .i64 r2, .int .i64 r3], .int .i64 r4]) ∧ Below w.heap.size w w' := by
 have hu27 := Try.underlying27
 have HB := Aside0.mk (Below.refl w.heap.size w)
 have H : ((spec_l01Code.f k a0 (([(⟨a1_0, a1_1, a1_2⟩ : S27), (⟨a2_0, a2_1, a2_2⟩ : S27)] : List (S27)))).bind fun t504 => (if t504 = 0 then ((spec_l02Join.f k a0 a1_0 a1_1 a1_2 a2_0 a2_1 a2_2).bind fun t505 => ((spec_l02Up.f k a0 a1_0 a1_1 a1_2 t505).bind fun bt506 => (if bt506.2.2.2 = true then (some (bt506.1, bt506.2.1, bt506.2.2.1, 0)) else (some (0, 0, 0, 3))))) else (some (0, 0, 0, t504)))) = some (r1, r2, r3, r4) := h
 clear h
 obtain ⟨y501, hy501⟩ : ∃ y_ : List (S27), y_ = (([(⟨a1_0, a1_1, a1_2⟩ : S27), (⟨a2_0, a2_1, a2_2⟩ : S27)] : List (S27))) := ⟨_, rfl⟩
 replace H : ((spec_l01Code.f k a0 y501).bind fun t504 => (if t504 = 0 then ((spec_l02Join.f k a0 a1_0 a1_1 a1_2 a2_0 a2_1 a2_2).bind fun t505 => ((spec_l02Up.f k a0 a1_0 a1_1 a1_2 t505).bind fun bt506 => (if bt506.2.2.2 = true then (some (bt506.1, bt506.2.1, bt506.2.2.1, 0)) else (some (0, 0, 0, 3))))) else (some (0, 0, 0, t504)))) = some (r1, r2, r3, r4) := by first | (rw [hy501]; with_reducible exact H) | (have H2_ := (Option.bind_some _ _).symm.trans H; rw [hy501]; with_reducible exact H2_) | (have H2_ := (Option.bind_some _ _).symm.trans H; with_reducible exact H2_) | with_reducible exact H | (rw [hy501]; exact H) | exact H
 have Ny501 := Aside0.mk hy501
 clear hy501
 replace H := Option.bind_eq_some_iff.mp H
 obtain ⟨t504, A40, H⟩ := H
 replace H : (if t504 = 0 then ((spec_l02Join.f k a0 a1_0 a1_1 a1_2 a2_0 a2_1 a2_2).bind fun t505 => ((spec_l02Up.f k a0 a1_0 a1_1 a1_2 t505).bind fun bt506 => (if bt506.2.2.2 = true then (some (bt506.1, bt506.2.1, bt506.2.2.1, 0)) else (some (0, 0, 0, 3))))) else (some (0, 0, 0, t504))) = some (r1, r2, r3, r4) := H
 have A4 := Aside0.mk A40
 clear A40
 by_cases c5 : t504 = 0
 ·rw [if_pos c5] at H
  have c5b0 : (t504 == 0) = true := beq_iff_eq.mpr c5
  have c5b1 : (t504 != 0) = false := bne_eq_false_iff_eq.mpr c5
  clear c5
  replace H := Option.bind_eq_some_iff.mp H
  obtain ⟨t505, A60, H⟩ := H
  replace H : ((spec_l02Up.f k a0 a1_0 a1_1 a1_2 t505).bind fun bt506 => (if bt506.2.2.2 = true then (some (bt506.1, bt506.2.1, bt506.2.2.1, 0)) else (some (0, 0, 0, 3)))) = some (r1, r2, r3, r4) := H
  have A6 := Aside0.mk A60
  clear A60
  replace H := Option.bind_eq_some_iff.mp H
  obtain ⟨⟨t506, t507, t508, t509⟩, A70, H⟩ := H
  replace H : (if t509 = true then (some (t506, t507, t508, 0)) else (some (0, 0, 0, 3))) = some (r1, r2, r3, r4) := H
  have A7 := Aside0.mk A70
  clear A70
  by_cases c8 : t509 = true
  ·subst c8
   have H1 : (some (t506, t507, t508, 0)) = some (r1, r2, r3, r4) := by rw [if_pos rfl] at H; exact H
   clear H
   have H := H1
   clear H1
   simp only [Option.some.injEq, Prod.mk.injEq] at H
   obtain ⟨rfl, rfl, rfl, rfl⟩ := H
   go_enter Try.func48, Try.ntmps48
   try go_wp2_with (first | ((with_reducible refine gate_dst (N := 4) rfl ?_); refine bx (N := 4) (cs := #[.int .i64 a1_0, .int .i64 a1_1, .int .i64 a1_2]) (t := 27) ?_; intro gb498 hg w9 hbox hb; have BK498 := Aside0.mk (hbox); have GW498 := sg hg; have GE498 := sg hg; replace HB := bs hb; clear hb hbox hg) | ((with_reducible refine gate_dst (N := 5) rfl ?_); refine bx (N := 5) (cs := #[.int .i64 a2_0, .int .i64 a2_1, .int .i64 a2_2]) (t := 27) ?_; intro gb499 hg w10 hbox hb; have BK499 := Aside0.mk (hbox); have GW499 := sg hg; have GE499 := sg hg; have NB498_499 := nl hg BK498; have NB499_498 := ng hg BK498; replace BK498 := bb BK498 hb; replace HB := bs hb; clear hb hbox hg) | ((with_reducible refine gate_dst (N := 6) rfl ?_); refine bx (N := 6) (cs := #[.int .i64 0, .int .i64 0, .int .i64 0]) (t := 27) ?_; intro gb500 hg w11 hbox hb; have BK500 := Aside0.mk (hbox); have GW500 := sg hg; have GE500 := sg hg; have NB498_500 := nl hg BK498; have NB500_498 := ng hg BK498; have NB499_500 := nl hg BK499; have NB500_499 := ng hg BK499; replace BK498 := bb BK498 hb; replace BK499 := bb BK499 hb; replace HB := bs hb; clear hb hbox hg; have hnb12 := NB498_499.out; have hnc12 := NB499_498.out; have hnb13 := NB498_500.out; have hnc13 := NB500_498.out; obtain ⟨hcz14_0, hcz14_1, hcz14_2, hfz14_0, hfz14_1, hfz14_2⟩ := c3 BK498; have hnb15 := NB499_500.out; have hnc15 := NB500_499.out; obtain ⟨hcz16_0, hcz16_1, hcz16_2, hfz16_0, hfz16_1, hfz16_2⟩ := c3 BK499) | ((with_reducible refine gate_dst (N := 14) rfl ?_); refine Kd.R_lit k27 _ 27 ?hg (N := 14) ?hd (xs := ([(⟨a1_0, a1_1, a1_2⟩ : S27), (⟨a2_0, a2_1, a2_2⟩ : S27)] : List (S27))) (inner := [.int .i64 a1_0, .int .i64 a1_1, .int .i64 a1_2, .int .i64 a2_0, .int .i64 a2_1, .int .i64 a2_2]) (ok := fun _ => True) (okp := fun _ => True) ?hr ?hp (fun _ hk => hk) trivial (Below.refl _ _) (Nat.le_refl _) (by simp) ?_; (case hd => rfl); (case hg => rfl); (case hr => first | (go_simp; done) | (go_simp; rfl)); (case hp => exact (Reps.c3 (show Kd.M k27 _ _ _ (⟨a1_0, a1_1, a1_2⟩ : S27) [.int .i64 a1_0, .int .i64 a1_1, .int .i64 a1_2] from (k27_mkM _ _ _ (⟨a1_0, a1_1, a1_2⟩ : S27) )) (Reps.c3 (show Kd.M k27 _ _ _ (⟨a2_0, a2_1, a2_2⟩ : S27) [.int .i64 a2_0, .int .i64 a2_1, .int .i64 a2_2] from (k27_mkM _ _ _ (⟨a2_0, a2_1, a2_2⟩ : S27) )) (Reps.none _ _)))); intro v502 w17 ho18 hb hg_ hnew_; clear hg_ hnew_; (first | rw [← Ny501.out] at ho18 | (simp only [Int.reduceToNat] at ho18; rw [← Ny501.out] at ho18)); have HO503 := Aside0.mk (Kd.R_lower (Kd.R_newB (Kd.R_newB (Kd.R_newB ho18 (g := gb498) (o := .cells #[.int .i64 a1_0, .int .i64 a1_1, .int .i64 a1_2] 27 (0, 0)) (be BK498)) (g := gb499) (o := .cells #[.int .i64 a2_0, .int .i64 a2_1, .int .i64 a2_2] 27 (0, 0)) (be BK499)) (g := gb500) (o := .cells #[.int .i64 0, .int .i64 0, .int .i64 0] 27 (0, 0)) (be BK500)) (below_size (by repeat (first | (with_reducible first | exact HB.out | apply below_alloc | apply pw_below_drewN | apply below_drew1 | refine below_set ?_ GE498.out | refine below_set ?_ GE499.out | refine below_set ?_ GE500.out) | exact HB.out)))); replace BK498 := bb BK498 hb; replace BK499 := bb BK499 hb; replace BK500 := bb BK500 hb; replace HB := bs hb; clear hb ho18; obtain ⟨Ao19, co19, eo19⟩ := Kd.R_slice HO503.out; subst eo19) | ((with_reducible refine gate_callee (f := 81) rfl ?_); refine g1 (some 15) Try.func81 #[.int .i64 a0, .slice Ao19 y501.length co19] ?_; (with_reducible refine (spec_l01Code.calls k a0 _ _ y501 t504 _ ?side1 ?side2 A4.out).mono ?_); (case side1 => repeat (first | exact (Kd.R_reads' HO503.out).2.2 | (with_reducible refine Kd.C_alloc ?_ _) | (with_reducible refine Kd.C_drewN ?_ _) | (with_reducible refine Kd.C_drew ?_))); (case side2 => exact (Kd.R_reads' HO503.out).2.1); rintro e w20 ⟨rfl, hb⟩; refine ⟨_, rfl, ?_⟩; replace HO503 := Aside0.mk (Kd.R_below (by (with_reducible repeat (first | apply Kd.R_alloc | apply Kd.R_drewN | apply Kd.R_drew)); exact HO503.out) hb); replace BK498 := bb BK498 hb; replace BK499 := bb BK499 hb; replace BK500 := bb BK500 hb; replace HB := bs hb; (try clear hb); (try clear hb2); (try clear hk); (try clear hi)))
   have n0_ := Aside0.mk (Kd.R_drew HO503.out)
   have n1_ := Aside0.mk (blk_drew BK498.out)
   have n2_ := Aside0.mk (blk_drew BK499.out)
   have n3_ := Aside0.mk (blk_drew BK500.out)
   have n4_ := Aside0.mk (below_drew1 HB.out)
   clear HO503
   clear BK498
   clear BK499
   clear BK500
   clear HB
   have HO503 := n0_
   have BK498 := n1_
   have BK499 := n2_
   have BK500 := n3_
   have HB := n4_
   clear n0_ n1_ n2_ n3_ n4_
   refine start_ (n := 13) (S := fun w' => w'.cell? ⟨gb498, 0, none⟩ = some (.int .i64 a1_0) ∧ w'.cell? ⟨gb498, 1, none⟩ = some (.int .i64 a1_1) ∧ w'.cell? ⟨gb498, 2, none⟩ = some (.int .i64 a1_2) ∧ w'.cell? ⟨gb499, 0, none⟩ = some (.int .i64 a2_0) ∧ w'.cell? ⟨gb499, 1, none⟩ = some (.int .i64 a2_1) ∧ w'.cell? ⟨gb499, 2, none⟩ = some (.int .i64 a2_2)) (ds := []) #[false, false, false, false, false, false, false, false, false, false, false, false, false] (by kernel_rfl) rfl rfl ⟨(blk_cell BK498.out 0).trans rfl, (blk_cell BK498.out 1).trans rfl, (blk_cell BK498.out 2).trans rfl, (blk_cell BK499.out 0).trans rfl, (blk_cell BK499.out 1).trans rfl, (blk_cell BK499.out 2).trans rfl⟩ (fun hHeld => ?_); refine with_tabW spec_JoinOf.tab4 spec_JoinOf.bits4 (fun HT_ HW_ => ?_)
   generalize w20.drew = w21 at HO503 BK498 BK499 BK500 HB hHeld ⊢
   refine pu 0 (some 21) #[true, false, false, false, false, false, false, false, false, false, false, false, false] HT_ ?_
   refine pu 2 (some 23) #[true, false, true, false, false, false, false, false, false, false, false, false, false] HT_ ?_
   refine take_ (i := 1) (N := some 22) (v := ?_) (a' := ?_) #[true, true, true, false, false, false, false, false, false, false, false, false, false] rfl rfl (take_ofW HT_.out HW_.out (by kernel_rfl)) (fun _ _ _ h => h) (Or.inl ⟨by rfl, ?_⟩) hHeld ?_ ?_
   rotate_left
   ·rintro w' ⟨s0, s1, s2, s3, s4, s5⟩
    go_simp
    with_reducible rfl
   rotate_left
   ·simp only [Act.put, List.setIfInBounds_toArray, List.set_cons_zero, List.set_cons_succ, i64_w, i32_w]
    rfl
   refine take_ (i := 3) (N := some 24) (v := ?_) (a' := ?_) #[true, true, true, true, false, false, false, false, false, false, false, false, false] rfl rfl (take_ofW HT_.out HW_.out (by kernel_rfl)) (fun _ _ _ h => h) (Or.inl ⟨by rfl, ?_⟩) hHeld ?_ ?_
   rotate_left
   ·rintro w' ⟨s0, s1, s2, s3, s4, s5⟩
    go_simp
    with_reducible rfl
   rotate_left
   ·simp only [Act.put, List.setIfInBounds_toArray, List.set_cons_zero, List.set_cons_succ, i64_w, i32_w]
    rfl
   refine take_ (i := 4) (N := some 25) (v := ?_) (a' := ?_) #[true, true, true, true, true, false, false, false, false, false, false, false, false] rfl rfl (take_ofW HT_.out HW_.out (by kernel_rfl)) (fun _ _ _ h => h) (Or.inl ⟨by rfl, ?_⟩) hHeld ?_ ?_
   rotate_left
   ·rintro w' ⟨s0, s1, s2, s3, s4, s5⟩
    go_simp
    with_reducible rfl
   rotate_left
   ·simp only [Act.put, List.setIfInBounds_toArray, List.set_cons_zero, List.set_cons_succ, i64_w, i32_w]
    rfl
   refine join_ (σ := Nat) 2 #[true, true, true, true, true, true, true, true, true, true, true, false, false] (fun s_ => [(26, .int .i64 t505), (27, .tuple #[.agg #[.int .i64 t506, .int .i64 t507, .int .i64 t508], .bool true]), (9, .pointer (some ⟨s_, 0, none⟩)), (20, .tuple #[.agg #[.int .i64 t506, .int .i64 t507, .int .i64 t508], .bool true]), (28, .agg #[.int .i64 t506, .int .i64 t507, .int .i64 t508]), (29, .bool true)]) (fun s_ w' => (w'.cell? ⟨gb498, 0, none⟩ = some (.int .i64 a1_0) ∧ w'.cell? ⟨gb498, 1, none⟩ = some (.int .i64 a1_1) ∧ w'.cell? ⟨gb498, 2, none⟩ = some (.int .i64 a1_2) ∧ w'.cell? ⟨gb499, 0, none⟩ = some (.int .i64 a2_0) ∧ w'.cell? ⟨gb499, 1, none⟩ = some (.int .i64 a2_1) ∧ w'.cell? ⟨gb499, 2, none⟩ = some (.int .i64 a2_2)) ∧ (Kd.R k27 27 w' w.heap.size (fun k_ => k_ ≠ gb498 ∧ k_ ≠ gb499 ∧ k_ ≠ gb500 ∧ k_ ≠ s_) (.slice Ao19 y501.length co19) y501) ∧ (w'.heap[gb498]? = some (.cells #[.int .i64 a1_0, .int .i64 a1_1, .int .i64 a1_2] 27 (0, 0))) ∧ (w'.heap[gb499]? = some (.cells #[.int .i64 a2_0, .int .i64 a2_1, .int .i64 a2_2] 27 (0, 0))) ∧ (w'.heap[gb500]? = some (.cells #[.int .i64 0, .int .i64 0, .int .i64 0] 27 (0, 0))) ∧ (w'.heap[s_]? = some (.cells #[.int .i64 0, .int .i64 0, .int .i64 0] 27 (0, 0))) ∧ (w.heap.size ≤ s_) ∧ (w.heap.size ≤ s_) ∧ (gb498 ≠ s_) ∧ (s_ ≠ gb498) ∧ (gb499 ≠ s_) ∧ (s_ ≠ gb499) ∧ (gb500 ≠ s_) ∧ (s_ ≠ gb500) ∧ (Below w.heap.size w w')) ?_ ?_
   rotate_left
   ·intro hCont
    refine two_ (i := 5) (j := 10) (Ni := some 26) (Nj := some 9) #[true, true, true, true, true, true, false, false, false, false, false, false, false] #[true, true, true, true, true, false, false, false, false, false, true, false, false] rfl rfl rfl rfl (two_of HT_.out (by kernel_rfl)) (by decide) (by decide) (fun K hK => ?_) (fun K hK => ?_)
    ·skip
     refine goes_ Try.func114 (by kernel_rfl) rfl #[.int .i64 a0, .agg #[.int .i64 a1_0, .int .i64 a1_1, .int .i64 a1_2], .agg #[.int .i64 a2_0, .int .i64 a2_1, .int .i64 a2_2]] (by rfl) rfl rfl (by (try simp only [List.map_toArray, List.map_cons, List.map_nil]); first | done | rfl | (simp only [List.length_drop, List.length_take]; rfl)) ?_
     with_reducible refine (spec_l02Join.calls k a0 a1_0 a1_1 a1_2 a2_0 a2_1 a2_2 t505 _ A6.out).mono ?_
     rintro e w22 ⟨rfl, hb⟩
     refine ⟨_, rfl, ?_⟩
     have n0_ := Aside0.mk (Kd.R_below (by (with_reducible repeat (first | apply Kd.R_alloc | apply Kd.R_drewN | apply Kd.R_drew)); exact HO503.out) hb)
     have n1_ := bb BK498 hb
     have n2_ := bb BK499 hb
     have n3_ := bb BK500 hb
     have n4_ := Aside0.mk (below_step (by repeat (first | (with_reducible first | exact HB.out | apply below_alloc | apply pw_below_drewN | apply below_drew1 | refine below_set ?_ GE498.out | refine below_set ?_ GE499.out | refine below_set ?_ GE500.out) | exact HB.out)) hb)
     clear HO503
     clear BK498
     clear BK499
     clear BK500
     clear HB
     have HO503 := n0_
     have BK498 := n1_
     have BK499 := n2_
     have BK500 := n3_
     have HB := n4_
     clear n0_ n1_ n2_ n3_ n4_
     (try clear hb)
     (try clear hb2)
     (try clear hk)
     (try clear hi)
     refine hK.out _ _ ⟨(blk_cell BK498.out 0).trans rfl, (blk_cell BK498.out 1).trans rfl, (blk_cell BK498.out 2).trans rfl, (blk_cell BK499.out 0).trans rfl, (blk_cell BK499.out 1).trans rfl, (blk_cell BK499.out 2).trans rfl⟩ (fun hHeld => ?_)
     clear hK K
     refine norm_ (a' := ?_) ?_ ?_
     rotate_left
     ·show Act.put _ (some 26) _ = _
      simp only [Act.put, List.setIfInBounds_toArray, List.set_cons_zero, List.set_cons_succ, i64_w, i32_w]
      rfl
     refine two_ (i := 6) (j := 10) (Ni := some 27) (Nj := some 9) #[true, true, true, true, true, true, true, false, false, false, false, false, false] #[true, true, true, true, true, true, false, false, false, false, true, false, false] rfl rfl rfl rfl (two_of HT_.out (by kernel_rfl)) (by decide) (by decide) (fun K hK => ?_) (fun K hK => ?_)
     ·skip
      refine goes_ Try.func113 (by kernel_rfl) rfl #[.int .i64 a0, .agg #[.int .i64 a1_0, .int .i64 a1_1, .int .i64 a1_2], .int .i64 t505] (by rfl) rfl rfl (by (try simp only [List.map_toArray, List.map_cons, List.map_nil]); first | done | rfl | (simp only [List.length_drop, List.length_take]; rfl)) ?_
      with_reducible refine (spec_l02Up.calls k a0 a1_0 a1_1 a1_2 t505 t506 t507 t508 true _ A7.out).mono ?_
      rintro e w23 ⟨rfl, hb⟩
      refine ⟨_, rfl, ?_⟩
      have n0_ := Aside0.mk (Kd.R_below (by (with_reducible repeat (first | apply Kd.R_alloc | apply Kd.R_drewN | apply Kd.R_drew)); exact HO503.out) hb)
      have n1_ := bb BK498 hb
      have n2_ := bb BK499 hb
      have n3_ := bb BK500 hb
      have n4_ := Aside0.mk (below_step (by repeat (first | (with_reducible first | exact HB.out | apply below_alloc | apply pw_below_drewN | apply below_drew1 | refine below_set ?_ GE498.out | refine below_set ?_ GE499.out | refine below_set ?_ GE500.out) | exact HB.out)) hb)
      clear HO503
      clear BK498
      clear BK499
      clear BK500
      clear HB
      have HO503 := n0_
      have BK498 := n1_
      have BK499 := n2_
      have BK500 := n3_
      have HB := n4_
      clear n0_ n1_ n2_ n3_ n4_
      (try clear hb)
      (try clear hb2)
      (try clear hk)
      (try clear hi)
      refine hK.out _ _ ⟨(blk_cell BK498.out 0).trans rfl, (blk_cell BK498.out 1).trans rfl, (blk_cell BK498.out 2).trans rfl, (blk_cell BK499.out 0).trans rfl, (blk_cell BK499.out 1).trans rfl, (blk_cell BK499.out 2).trans rfl⟩ (fun hHeld => ?_)
      clear hK K
      refine norm_ (a' := ?_) ?_ ?_
      rotate_left
      ·show Act.put _ (some 27) _ = _
       simp only [Act.put, List.setIfInBounds_toArray, List.set_cons_zero, List.set_cons_succ, i64_w, i32_w]
       rfl
      refine pu 7 (some 20) #[true, true, true, true, true, true, true, true, false, false, false, false, false] HT_ ?_
      refine pu 8 (some 28) #[true, true, true, true, true, true, true, true, true, false, false, false, false] HT_ ?_
      refine pu 9 (some 29) #[true, true, true, true, true, true, true, true, true, true, false, false, false] HT_ ?_
      refine one_ (i := 10) (N := some 9) #[true, true, true, true, true, true, true, true, true, true, true, false, false] rfl rfl (one_of HT_.out (by kernel_rfl)) (by decide) (fun K hK => ?_)
      refine box_step ?hg (N := 9) ?hd (cs := #[.int .i64 0, .int .i64 0, .int .i64 0]) (t := 27) ?hr ?_; (case hd => rfl); (case hg => rfl); (case hr => first | (go_simp; done) | (go_simp; rfl))
      intro gb510 hg w24 hbox hb
      have n0_ := Aside0.mk (Kd.R_below (Kd.R_elderB (by (with_reducible repeat (first | apply Kd.R_alloc | apply Kd.R_drewN | apply Kd.R_drew)); exact HO503.out) gb510 (Nat.le_of_eq hg.symm)) hb)
      have n1_ := bb BK498 hb
      have n2_ := bb BK499 hb
      have n3_ := bb BK500 hb
      have n4_ := Aside0.mk (below_step (by repeat (first | (with_reducible first | exact HB.out | apply below_alloc | apply pw_below_drewN | apply below_drew1 | refine below_set ?_ GE498.out | refine below_set ?_ GE499.out | refine below_set ?_ GE500.out) | exact HB.out)) hb)
      have n5_ := Aside0.mk (hbox)
      have n6_ := Aside0.mk ((by rw [hg]; exact (below_size (by repeat (first | (with_reducible first | exact HB.out | apply below_alloc | apply pw_below_drewN | apply below_drew1 | refine below_set ?_ GE498.out | refine below_set ?_ GE499.out | refine below_set ?_ GE500.out) | exact HB.out))) : w.heap.size ≤ gb510))
      have n7_ := Aside0.mk ((by rw [hg]; exact (below_size (by repeat (first | (with_reducible first | exact HB.out | apply below_alloc | apply pw_below_drewN | apply below_drew1 | refine below_set ?_ GE498.out | refine below_set ?_ GE499.out | refine below_set ?_ GE500.out) | exact HB.out))) : w.heap.size ≤ gb510))
      have n8_ := nl hg BK498
      have n9_ := ng hg BK498
      have n10_ := nl hg BK499
      have n11_ := ng hg BK499
      have n12_ := nl hg BK500
      have n13_ := ng hg BK500
      clear HO503
      clear BK498
      clear BK499
      clear BK500
      clear HB
      have HO503 := n0_
      have BK498 := n1_
      have BK499 := n2_
      have BK500 := n3_
      have HB := n4_
      have BK510 := n5_
      have GW510 := n6_
      have GE510 := n7_
      have NB498_510 := n8_
      have NB510_498 := n9_
      have NB499_510 := n10_
      have NB510_499 := n11_
      have NB500_510 := n12_
      have NB510_500 := n13_
      clear n0_ n1_ n2_ n3_ n4_ n5_ n6_ n7_ n8_ n9_ n10_ n11_ n12_ n13_
      clear hb hbox hg
      refine hK.out _ _ ⟨(blk_cell BK498.out 0).trans rfl, (blk_cell BK498.out 1).trans rfl, (blk_cell BK498.out 2).trans rfl, (blk_cell BK499.out 0).trans rfl, (blk_cell BK499.out 1).trans rfl, (blk_cell BK499.out 2).trans rfl⟩ (fun hHeld => ?_)
      clear hK K
      refine norm_ (a' := ?_) ?_ ?_
      rotate_left
      ·show Act.put _ (some 9) _ = _
       simp only [Act.put, List.setIfInBounds_toArray, List.set_cons_zero, List.set_cons_succ, i64_w, i32_w]
       rfl
      exact norm_ (by simp only [putAll, Act.put, List.setIfInBounds_toArray, List.set_cons_zero, List.set_cons_succ]) (hCont (gb510) _ ⟨hHeld, (by (with_reducible repeat (first | apply Kd.R_alloc | apply Kd.R_drewN | apply Kd.R_drew)); exact Kd.R_mono HO503.out (fun _ hk => ⟨hk.1.1.1.2, ⟨hk.1.1.2, ⟨hk.1.2, hk.2⟩⟩⟩)), (be BK498), (be BK499), (be BK500), (be BK510), GW510.out, GE510.out, NB498_510.out, NB510_498.out, NB499_510.out, NB510_499.out, NB500_510.out, NB510_500.out, (by repeat (first | (with_reducible first | exact HB.out | apply below_alloc | apply pw_below_drewN | apply below_drew1 | refine below_set ?_ GE498.out | refine below_set ?_ GE499.out | refine below_set ?_ GE500.out | refine below_set ?_ GE510.out) | exact HB.out))⟩)
     ·skip
      refine box_step ?hg (N := 9) ?hd (cs := #[.int .i64 0, .int .i64 0, .int .i64 0]) (t := 27) ?hr ?_; (case hd => rfl); (case hg => rfl); (case hr => first | (go_simp; done) | (go_simp; rfl))
      intro gb510 hg w23 hbox hb
      have n0_ := Aside0.mk (Kd.R_below (Kd.R_elderB (by (with_reducible repeat (first | apply Kd.R_alloc | apply Kd.R_drewN | apply Kd.R_drew)); exact HO503.out) gb510 (Nat.le_of_eq hg.symm)) hb)
      have n1_ := bb BK498 hb
      have n2_ := bb BK499 hb
      have n3_ := bb BK500 hb
      have n4_ := Aside0.mk (below_step (by repeat (first | (with_reducible first | exact HB.out | apply below_alloc | apply pw_below_drewN | apply below_drew1 | refine below_set ?_ GE498.out | refine below_set ?_ GE499.out | refine below_set ?_ GE500.out) | exact HB.out)) hb)
      have n5_ := Aside0.mk (hbox)
      have n6_ := Aside0.mk ((by rw [hg]; exact (below_size (by repeat (first | (with_reducible first | exact HB.out | apply below_alloc | apply pw_below_drewN | apply below_drew1 | refine below_set ?_ GE498.out | refine below_set ?_ GE499.out | refine below_set ?_ GE500.out) | exact HB.out))) : w.heap.size ≤ gb510))
      have n7_ := Aside0.mk ((by rw [hg]; exact (below_size (by repeat (first | (with_reducible first | exact HB.out | apply below_alloc | apply pw_below_drewN | apply below_drew1 | refine below_set ?_ GE498.out | refine below_set ?_ GE499.out | refine below_set ?_ GE500.out) | exact HB.out))) : w.heap.size ≤ gb510))
      have n8_ := nl hg BK498
      have n9_ := ng hg BK498
      have n10_ := nl hg BK499
      have n11_ := ng hg BK499
      have n12_ := nl hg BK500
      have n13_ := ng hg BK500
      clear HO503
      clear BK498
      clear BK499
      clear BK500
      clear HB
      have HO503 := n0_
      have BK498 := n1_
      have BK499 := n2_
      have BK500 := n3_
      have HB := n4_
      have BK510 := n5_
      have GW510 := n6_
      have GE510 := n7_
      have NB498_510 := n8_
      have NB510_498 := n9_
      have NB499_510 := n10_
      have NB510_499 := n11_
      have NB500_510 := n12_
      have NB510_500 := n13_
      clear n0_ n1_ n2_ n3_ n4_ n5_ n6_ n7_ n8_ n9_ n10_ n11_ n12_ n13_
      clear hb hbox hg
      refine hK.out _ _ ⟨(blk_cell BK498.out 0).trans rfl, (blk_cell BK498.out 1).trans rfl, (blk_cell BK498.out 2).trans rfl, (blk_cell BK499.out 0).trans rfl, (blk_cell BK499.out 1).trans rfl, (blk_cell BK499.out 2).trans rfl⟩ (fun hHeld => ?_)
      clear hK K
      refine norm_ (a' := ?_) ?_ ?_
      rotate_left
      ·show Act.put _ (some 9) _ = _
       simp only [Act.put, List.setIfInBounds_toArray, List.set_cons_zero, List.set_cons_succ, i64_w, i32_w]
       rfl
      refine one_ (i := 6) (N := some 27) #[true, true, true, true, true, true, true, false, false, false, true, false, false] rfl rfl (one_of HT_.out (by kernel_rfl)) (by decide) (fun K hK => ?_)
      refine goes_ Try.func113 (by kernel_rfl) rfl #[.int .i64 a0, .agg #[.int .i64 a1_0, .int .i64 a1_1, .int .i64 a1_2], .int .i64 t505] (by rfl) rfl rfl (by (try simp only [List.map_toArray, List.map_cons, List.map_nil]); first | done | rfl | (simp only [List.length_drop, List.length_take]; rfl)) ?_
      with_reducible refine (spec_l02Up.calls k a0 a1_0 a1_1 a1_2 t505 t506 t507 t508 true _ A7.out).mono ?_
      rintro e w24 ⟨rfl, hb⟩
      refine ⟨_, rfl, ?_⟩
      have n0_ := Aside0.mk (Kd.R_below (by (with_reducible repeat (first | apply Kd.R_alloc | apply Kd.R_drewN | apply Kd.R_drew)); exact HO503.out) hb)
      have n1_ := bb BK498 hb
      have n2_ := bb BK499 hb
      have n3_ := bb BK500 hb
      have n4_ := bb BK510 hb
      have n5_ := Aside0.mk (below_step (by repeat (first | (with_reducible first | exact HB.out | apply below_alloc | apply pw_below_drewN | apply below_drew1 | refine below_set ?_ GE498.out | refine below_set ?_ GE499.out | refine below_set ?_ GE500.out | refine below_set ?_ GE510.out) | exact HB.out)) hb)
      clear HO503
      clear BK498
      clear BK499
      clear BK500
      clear BK510
      clear HB
      have HO503 := n0_
      have BK498 := n1_
      have BK499 := n2_
      have BK500 := n3_
      have BK510 := n4_
      have HB := n5_
      clear n0_ n1_ n2_ n3_ n4_ n5_
      (try clear hb)
      (try clear hb2)
      (try clear hk)
      (try clear hi)
      refine hK.out _ _ ⟨(blk_cell BK498.out 0).trans rfl, (blk_cell BK498.out 1).trans rfl, (blk_cell BK498.out 2).trans rfl, (blk_cell BK499.out 0).trans rfl, (blk_cell BK499.out 1).trans rfl, (blk_cell BK499.out 2).trans rfl⟩ (fun hHeld => ?_)
      clear hK K
      refine norm_ (a' := ?_) ?_ ?_
      rotate_left
      ·show Act.put _ (some 27) _ = _
       simp only [Act.put, List.setIfInBounds_toArray, List.set_cons_zero, List.set_cons_succ, i64_w, i32_w]
       rfl
      refine pu 7 (some 20) #[true, true, true, true, true, true, true, true, false, false, true, false, false] HT_ ?_
      refine pu 8 (some 28) #[true, true, true, true, true, true, true, true, true, false, true, false, false] HT_ ?_
      refine pu 9 (some 29) #[true, true, true, true, true, true, true, true, true, true, true, false, false] HT_ ?_
      exact norm_ (by simp only [putAll, Act.put, List.setIfInBounds_toArray, List.set_cons_zero, List.set_cons_succ]) (hCont (gb510) _ ⟨hHeld, (by (with_reducible repeat (first | apply Kd.R_alloc | apply Kd.R_drewN | apply Kd.R_drew)); exact Kd.R_mono HO503.out (fun _ hk => ⟨hk.1.1.1.2, ⟨hk.1.1.2, ⟨hk.1.2, hk.2⟩⟩⟩)), (be BK498), (be BK499), (be BK500), (be BK510), GW510.out, GE510.out, NB498_510.out, NB510_498.out, NB499_510.out, NB510_499.out, NB500_510.out, NB510_500.out, (by repeat (first | (with_reducible first | exact HB.out | apply below_alloc | apply pw_below_drewN | apply below_drew1 | refine below_set ?_ GE498.out | refine below_set ?_ GE499.out | refine below_set ?_ GE500.out | refine below_set ?_ GE510.out) | exact HB.out))⟩)
    ·skip
     refine box_step ?hg (N := 9) ?hd (cs := #[.int .i64 0, .int .i64 0, .int .i64 0]) (t := 27) ?hr ?_; (case hd => rfl); (case hg => rfl); (case hr => first | (go_simp; done) | (go_simp; rfl))
     intro gb510 hg w22 hbox hb
     have n0_ := Aside0.mk (Kd.R_below (Kd.R_elderB (by (with_reducible repeat (first | apply Kd.R_alloc | apply Kd.R_drewN | apply Kd.R_drew)); exact HO503.out) gb510 (Nat.le_of_eq hg.symm)) hb)
     have n1_ := bb BK498 hb
     have n2_ := bb BK499 hb
     have n3_ := bb BK500 hb
     have n4_ := Aside0.mk (below_step (by repeat (first | (with_reducible first | exact HB.out | apply below_alloc | apply pw_below_drewN | apply below_drew1 | refine below_set ?_ GE498.out | refine below_set ?_ GE499.out | refine below_set ?_ GE500.out) | exact HB.out)) hb)
     have n5_ := Aside0.mk (hbox)
     have n6_ := Aside0.mk ((by rw [hg]; exact (below_size (by repeat (first | (with_reducible first | exact HB.out | apply below_alloc | apply pw_below_drewN | apply below_drew1 | refine below_set ?_ GE498.out | refine below_set ?_ GE499.out | refine below_set ?_ GE500.out) | exact HB.out))) : w.heap.size ≤ gb510))
     have n7_ := Aside0.mk ((by rw [hg]; exact (below_size (by repeat (first | (with_reducible first | exact HB.out | apply below_alloc | apply pw_below_drewN | apply below_drew1 | refine below_set ?_ GE498.out | refine below_set ?_ GE499.out | refine below_set ?_ GE500.out) | exact HB.out))) : w.heap.size ≤ gb510))
     have n8_ := nl hg BK498
     have n9_ := ng hg BK498
     have n10_ := nl hg BK499
     have n11_ := ng hg BK499
     have n12_ := nl hg BK500
     have n13_ := ng hg BK500
     clear HO503
     clear BK498
     clear BK499
     clear BK500
     clear HB
     have HO503 := n0_
     have BK498 := n1_
     have BK499 := n2_
     have BK500 := n3_
     have HB := n4_
     have BK510 := n5_
     have GW510 := n6_
     have GE510 := n7_
     have NB498_510 := n8_
     have NB510_498 := n9_
     have NB499_510 := n10_
     have NB510_499 := n11_
     have NB500_510 := n12_
     have NB510_500 := n13_
     clear n0_ n1_ n2_ n3_ n4_ n5_ n6_ n7_ n8_ n9_ n10_ n11_ n12_ n13_
     clear hb hbox hg
     refine hK.out _ _ ⟨(blk_cell BK498.out 0).trans rfl, (blk_cell BK498.out 1).trans rfl, (blk_cell BK498.out 2).trans rfl, (blk_cell BK499.out 0).trans rfl, (blk_cell BK499.out 1).trans rfl, (blk_cell BK499.out 2).trans rfl⟩ (fun hHeld => ?_)
     clear hK K
     refine norm_ (a' := ?_) ?_ ?_
     rotate_left
     ·show Act.put _ (some 9) _ = _
      simp only [Act.put, List.setIfInBounds_toArray, List.set_cons_zero, List.set_cons_succ, i64_w, i32_w]
      rfl
     refine one_ (i := 5) (N := some 26) #[true, true, true, true, true, true, false, false, false, false, true, false, false] rfl rfl (one_of HT_.out (by kernel_rfl)) (by decide) (fun K hK => ?_)
     refine goes_ Try.func114 (by kernel_rfl) rfl #[.int .i64 a0, .agg #[.int .i64 a1_0, .int .i64 a1_1, .int .i64 a1_2], .agg #[.int .i64 a2_0, .int .i64 a2_1, .int .i64 a2_2]] (by rfl) rfl rfl (by (try simp only [List.map_toArray, List.map_cons, List.map_nil]); first | done | rfl | (simp only [List.length_drop, List.length_take]; rfl)) ?_
     with_reducible refine (spec_l02Join.calls k a0 a1_0 a1_1 a1_2 a2_0 a2_1 a2_2 t505 _ A6.out).mono ?_
     rintro e w23 ⟨rfl, hb⟩
     refine ⟨_, rfl, ?_⟩
     have n0_ := Aside0.mk (Kd.R_below (by (with_reducible repeat (first | apply Kd.R_alloc | apply Kd.R_drewN | apply Kd.R_drew)); exact HO503.out) hb)
     have n1_ := bb BK498 hb
     have n2_ := bb BK499 hb
     have n3_ := bb BK500 hb
     have n4_ := bb BK510 hb
     have n5_ := Aside0.mk (below_step (by repeat (first | (with_reducible first | exact HB.out | apply below_alloc | apply pw_below_drewN | apply below_drew1 | refine below_set ?_ GE498.out | refine below_set ?_ GE499.out | refine below_set ?_ GE500.out | refine below_set ?_ GE510.out) | exact HB.out)) hb)
     clear HO503
     clear BK498
     clear BK499
     clear BK500
     clear BK510
     clear HB
     have HO503 := n0_
     have BK498 := n1_
     have BK499 := n2_
     have BK500 := n3_
     have BK510 := n4_
     have HB := n5_
     clear n0_ n1_ n2_ n3_ n4_ n5_
     (try clear hb)
     (try clear hb2)
     (try clear hk)
     (try clear hi)
     refine hK.out _ _ ⟨(blk_cell BK498.out 0).trans rfl, (blk_cell BK498.out 1).trans rfl, (blk_cell BK498.out 2).trans rfl, (blk_cell BK499.out 0).trans rfl, (blk_cell BK499.out 1).trans rfl, (blk_cell BK499.out 2).trans rfl⟩ (fun hHeld => ?_)
     clear hK K
     refine norm_ (a' := ?_) ?_ ?_
     rotate_left
     ·show Act.put _ (some 26) _ = _
      simp only [Act.put, List.setIfInBounds_toArray, List.set_cons_zero, List.set_cons_succ, i64_w, i32_w]
      rfl
     refine one_ (i := 6) (N := some 27) #[true, true, true, true, true, true, true, false, false, false, true, false, false] rfl rfl (one_of HT_.out (by kernel_rfl)) (by decide) (fun K hK => ?_)
     refine goes_ Try.func113 (by kernel_rfl) rfl #[.int .i64 a0, .agg #[.int .i64 a1_0, .int .i64 a1_1, .int .i64 a1_2], .int .i64 t505] (by rfl) rfl rfl (by (try simp only [List.map_toArray, List.map_cons, List.map_nil]); first | done | rfl | (simp only [List.length_drop, List.length_take]; rfl)) ?_
     with_reducible refine (spec_l02Up.calls k a0 a1_0 a1_1 a1_2 t505 t506 t507 t508 true _ A7.out).mono ?_
     rintro e w24 ⟨rfl, hb⟩
     refine ⟨_, rfl, ?_⟩
     have n0_ := Aside0.mk (Kd.R_below (by (with_reducible repeat (first | apply Kd.R_alloc | apply Kd.R_drewN | apply Kd.R_drew)); exact HO503.out) hb)
     have n1_ := bb BK498 hb
     have n2_ := bb BK499 hb
     have n3_ := bb BK500 hb
     have n4_ := bb BK510 hb
     have n5_ := Aside0.mk (below_step (by repeat (first | (with_reducible first | exact HB.out | apply below_alloc | apply pw_below_drewN | apply below_drew1 | refine below_set ?_ GE498.out | refine below_set ?_ GE499.out | refine below_set ?_ GE500.out | refine below_set ?_ GE510.out) | exact HB.out)) hb)
     clear HO503
     clear BK498
     clear BK499
     clear BK500
     clear BK510
     clear HB
     have HO503 := n0_
     have BK498 := n1_
     have BK499 := n2_
     have BK500 := n3_
     have BK510 := n4_
     have HB := n5_
     clear n0_ n1_ n2_ n3_ n4_ n5_
     (try clear hb)
     (try clear hb2)
     (try clear hk)
     (try clear hi)
     refine hK.out _ _ ⟨(blk_cell BK498.out 0).trans rfl, (blk_cell BK498.out 1).trans rfl, (blk_cell BK498.out 2).trans rfl, (blk_cell BK499.out 0).trans rfl, (blk_cell BK499.out 1).trans rfl, (blk_cell BK499.out 2).trans rfl⟩ (fun hHeld => ?_)
     clear hK K
     refine norm_ (a' := ?_) ?_ ?_
     rotate_left
     ·show Act.put _ (some 27) _ = _
      simp only [Act.put, List.setIfInBounds_toArray, List.set_cons_zero, List.set_cons_succ, i64_w, i32_w]
      rfl
     refine pu 7 (some 20) #[true, true, true, true, true, true, true, true, false, false, true, false, false] HT_ ?_
     refine pu 8 (some 28) #[true, true, true, true, true, true, true, true, true, false, true, false, false] HT_ ?_
     refine pu 9 (some 29) #[true, true, true, true, true, true, true, true, true, true, true, false, false] HT_ ?_
     exact norm_ (by simp only [putAll, Act.put, List.setIfInBounds_toArray, List.set_cons_zero, List.set_cons_succ]) (hCont (gb510) _ ⟨hHeld, (by (with_reducible repeat (first | apply Kd.R_alloc | apply Kd.R_drewN | apply Kd.R_drew)); exact Kd.R_mono HO503.out (fun _ hk => ⟨hk.1.1.1.2, ⟨hk.1.1.2, ⟨hk.1.2, hk.2⟩⟩⟩)), (be BK498), (be BK499), (be BK500), (be BK510), GW510.out, GE510.out, NB498_510.out, NB510_498.out, NB499_510.out, NB510_499.out, NB500_510.out, NB510_500.out, (by repeat (first | (with_reducible first | exact HB.out | apply below_alloc | apply pw_below_drewN | apply below_drew1 | refine below_set ?_ GE498.out | refine below_set ?_ GE499.out | refine below_set ?_ GE500.out | refine below_set ?_ GE510.out) | exact HB.out))⟩)
   rintro gb510 w25 ⟨hS_, h0_, h1_, h2_, h3_, h4_, h5_, h6_, h7_, h8_, h9_, h10_, h11_, h12_, h13_⟩
   have n0_ : Aside0 (Kd.R k27 27 w25 w.heap.size (fun k_ => k_ ≠ gb498 ∧ k_ ≠ gb499 ∧ k_ ≠ gb500 ∧ k_ ≠ gb510) (.slice Ao19 y501.length co19) y501) := ⟨h0_⟩
   have n1_ : Aside0 (w25.heap[gb498]? = some (.cells #[.int .i64 a1_0, .int .i64 a1_1, .int .i64 a1_2] 27 (0, 0))) := ⟨h1_⟩
   have n2_ : Aside0 (w25.heap[gb499]? = some (.cells #[.int .i64 a2_0, .int .i64 a2_1, .int .i64 a2_2] 27 (0, 0))) := ⟨h2_⟩
   have n3_ : Aside0 (w25.heap[gb500]? = some (.cells #[.int .i64 0, .int .i64 0, .int .i64 0] 27 (0, 0))) := ⟨h3_⟩
   have n4_ : Aside0 (w25.heap[gb510]? = some (.cells #[.int .i64 0, .int .i64 0, .int .i64 0] 27 (0, 0))) := ⟨h4_⟩
   have n5_ : Aside0 (w.heap.size ≤ gb510) := ⟨h5_⟩
   have n6_ : Aside0 (w.heap.size ≤ gb510) := ⟨h6_⟩
   have n7_ : Aside0 (gb498 ≠ gb510) := ⟨h7_⟩
   have n8_ : Aside0 (gb510 ≠ gb498) := ⟨h8_⟩
   have n9_ : Aside0 (gb499 ≠ gb510) := ⟨h9_⟩
   have n10_ : Aside0 (gb510 ≠ gb499) := ⟨h10_⟩
   have n11_ : Aside0 (gb500 ≠ gb510) := ⟨h11_⟩
   have n12_ : Aside0 (gb510 ≠ gb500) := ⟨h12_⟩
   have n13_ : Aside0 (Below w.heap.size w w25) := ⟨h13_⟩
   clear HO503
   clear BK498
   clear BK499
   clear BK500
   clear HB
   clear h0_ h1_ h2_ h3_ h4_ h5_ h6_ h7_ h8_ h9_ h10_ h11_ h12_ h13_
   have HO503 := n0_
   have BK498 := n1_
   have BK499 := n2_
   have BK500 := n3_
   have BK510 := n4_
   have GW510 := n5_
   have GE510 := n6_
   have NB498_510 := n7_
   have NB510_498 := n8_
   have NB499_510 := n9_
   have NB510_499 := n10_
   have NB500_510 := n11_
   have NB510_500 := n12_
   have HB := n13_
   clear n0_ n1_ n2_ n3_ n4_ n5_ n6_ n7_ n8_ n9_ n10_ n11_ n12_ n13_
   have hHeld : w25.cell? ⟨gb498, 0, none⟩ = some (.int .i64 a1_0) ∧ w25.cell? ⟨gb498, 1, none⟩ = some (.int .i64 a1_1) ∧ w25.cell? ⟨gb498, 2, none⟩ = some (.int .i64 a1_2) ∧ w25.cell? ⟨gb499, 0, none⟩ = some (.int .i64 a2_0) ∧ w25.cell? ⟨gb499, 1, none⟩ = some (.int .i64 a2_1) ∧ w25.cell? ⟨gb499, 2, none⟩ = some (.int .i64 a2_2) := hS_
   refine norm_ (a' := ?_) ?_ ?_
   rotate_left
   ·simp only [putAll, Act.put, List.setIfInBounds_toArray, List.set_cons_zero, List.set_cons_succ]
    rfl
   refine one_ (i := 11) (N := none) #[true, true, true, true, true, true, true, true, true, true, true, true, false] rfl rfl (one_of HT_.out (by kernel_rfl)) (by decide) (fun K hK => ?_)
   have hs26 : w25.cell? ⟨gb510, 0, none⟩ = some (.int .i64 0) := (blk_cell BK510.out 0).trans rfl
   have hfs26 := blk_frozen BK510.out 0
   have hns26_0 := NB498_510.out
   have hns26_1 := NB499_510.out
   have hns26_2 := NB500_510.out
   have hms26_0 := NB510_498.out
   have hms26_1 := NB510_499.out
   have hms26_2 := NB510_500.out
   have hs27 : w25.cell? ⟨gb510, 1, none⟩ = some (.int .i64 0) := (blk_cell BK510.out 1).trans rfl
   have hfs27 := blk_frozen BK510.out 1
   have hns27_0 := NB498_510.out
   have hns27_1 := NB499_510.out
   have hns27_2 := NB500_510.out
   have hms27_0 := NB510_498.out
   have hms27_1 := NB510_499.out
   have hms27_2 := NB510_500.out
   have hs28 : w25.cell? ⟨gb510, 2, none⟩ = some (.int .i64 0) := (blk_cell BK510.out 2).trans rfl
   have hfs28 := blk_frozen BK510.out 2
   have hns28_0 := NB498_510.out
   have hns28_1 := NB499_510.out
   have hns28_2 := NB500_510.out
   have hms28_0 := NB510_498.out
   have hms28_1 := NB510_499.out
   have hms28_2 := NB510_500.out
   refine skip_ (w1 := ?_) (by rfl) rfl ?_ ?_
   rotate_left
   ·go_simp
    rfl
   refine hK.out _ _ ⟨((cell_far (p := ⟨gb510, _, none⟩) NB498_510.out _).trans (((cell_far (p := ⟨gb510, _, none⟩) NB498_510.out _).trans (((cell_far (p := ⟨gb510, _, none⟩) NB498_510.out _).trans (hHeld.1)))))), ((cell_far (p := ⟨gb510, _, none⟩) NB498_510.out _).trans (((cell_far (p := ⟨gb510, _, none⟩) NB498_510.out _).trans (((cell_far (p := ⟨gb510, _, none⟩) NB498_510.out _).trans (hHeld.2.1)))))), ((cell_far (p := ⟨gb510, _, none⟩) NB498_510.out _).trans (((cell_far (p := ⟨gb510, _, none⟩) NB498_510.out _).trans (((cell_far (p := ⟨gb510, _, none⟩) NB498_510.out _).trans (hHeld.2.2.1)))))), ((cell_far (p := ⟨gb510, _, none⟩) NB499_510.out _).trans (((cell_far (p := ⟨gb510, _, none⟩) NB499_510.out _).trans (((cell_far (p := ⟨gb510, _, none⟩) NB499_510.out _).trans (hHeld.2.2.2.1)))))), ((cell_far (p := ⟨gb510, _, none⟩) NB499_510.out _).trans (((cell_far (p := ⟨gb510, _, none⟩) NB499_510.out _).trans (((cell_far (p := ⟨gb510, _, none⟩) NB499_510.out _).trans (hHeld.2.2.2.2.1)))))), ((cell_far (p := ⟨gb510, _, none⟩) NB499_510.out _).trans (((cell_far (p := ⟨gb510, _, none⟩) NB499_510.out _).trans (((cell_far (p := ⟨gb510, _, none⟩) NB499_510.out _).trans (hHeld.2.2.2.2.2))))))⟩ (fun hHeld => ?_)
   clear hK K
   refine pu 12 (some 10) #[true, true, true, true, true, true, true, true, true, true, true, true, true] HT_ ?_
   refine done_ (done_of HT_.out (by kernel_rfl)) ?_
   have hnb29 := NB510_498.out
   have hnc29 := NB498_510.out
   have hnb30 := NB510_499.out
   have hnc30 := NB499_510.out
   have hnb31 := NB510_500.out
   have hnc31 := NB500_510.out
   have hcz32_0 : w25.cell? ⟨gb510, 0, none⟩ = some (.int .i64 0) := (blk_cell BK510.out 0).trans rfl
   have hcz32_1 : w25.cell? ⟨gb510, 1, none⟩ = some (.int .i64 0) := (blk_cell BK510.out 1).trans rfl
   have hcz32_2 : w25.cell? ⟨gb510, 2, none⟩ = some (.int .i64 0) := (blk_cell BK510.out 2).trans rfl
   have hfz32_0 := blk_frozen BK510.out 0
   have hfz32_1 := blk_frozen BK510.out 1
   have hfz32_2 := blk_frozen BK510.out 2
   have hcz33_0 : w25.cell? ⟨gb500, 0, none⟩ = some (.int .i64 0) := (blk_cell BK500.out 0).trans rfl
   have hcz33_1 : w25.cell? ⟨gb500, 1, none⟩ = some (.int .i64 0) := (blk_cell BK500.out 1).trans rfl
   have hcz33_2 : w25.cell? ⟨gb500, 2, none⟩ = some (.int .i64 0) := (blk_cell BK500.out 2).trans rfl
   have hfz33_0 := blk_frozen BK500.out 0
   have hfz33_1 := blk_frozen BK500.out 1
   have hfz33_2 := blk_frozen BK500.out 2
   try go_wp2
   refine bodyPost_ret (results_ct rfl _ _ gb500 27 #[.int .i64 t506, .int .i64 t507, .int .i64 t508] (0, 0) _ rfl (by (with_reducible repeat (first | apply bn | apply bd | apply ba)); refine blk_put (cs := #[.int .i64 t506, .int .i64 t507, .int .i64 0]) ?_ 2 _ rfl; (with_reducible repeat (first | apply bn | apply bd | apply ba)); refine blk_put (cs := #[.int .i64 t506, .int .i64 0, .int .i64 0]) ?_ 1 _ rfl; (with_reducible repeat (first | apply bn | apply bd | apply ba)); refine blk_put (cs := #[.int .i64 0, .int .i64 0, .int .i64 0]) ?_ 0 _ rfl; (with_reducible repeat (first | apply bn | apply bd | apply ba)); refine blk_far ?_ NB500_510.out _; (with_reducible repeat (first | apply bn | apply bd | apply ba)); refine blk_far ?_ NB500_510.out _; (with_reducible repeat (first | apply bn | apply bd | apply ba)); refine blk_far ?_ NB500_510.out _; (with_reducible repeat (first | apply bn | apply bd | apply ba)); exact BK500.out) Try.underlying27 rfl (by kernel_rfl)) rfl ?_
   exact ⟨by first | rfl | (simp [errW_none, errW_some] <;> rfl) | (simp [*, errW_none, errW_some] <;> rfl), by repeat (first | (with_reducible first | exact HB.out | apply below_alloc | apply pw_below_drewN | apply below_drew1 | refine below_set ?_ GE498.out | refine below_set ?_ GE499.out | refine below_set ?_ GE500.out | refine below_set ?_ GE510.out) | exact HB.out)⟩
  ·replace c8 := Bool.eq_false_iff.mpr c8
   subst c8
   have H1 : (some (0, 0, 0, 3)) = some (r1, r2, r3, r4) := by rw [if_neg (show ¬ (false = true) by decide)] at H; exact H
   clear H
   have H := H1
   clear H1
   simp only [Option.some.injEq, Prod.mk.injEq] at H
   obtain ⟨rfl, rfl, rfl, rfl⟩ := H
   go_enter Try.func48, Try.ntmps48
   try go_wp2_with (first | ((with_reducible refine gate_dst (N := 4) rfl ?_); refine bx (N := 4) (cs := #[.int .i64 a1_0, .int .i64 a1_1, .int .i64 a1_2]) (t := 27) ?_; intro gb498 hg w34 hbox hb; have BK498 := Aside0.mk (hbox); have GW498 := sg hg; have GE498 := sg hg; replace HB := bs hb; clear hb hbox hg) | ((with_reducible refine gate_dst (N := 5) rfl ?_); refine bx (N := 5) (cs := #[.int .i64 a2_0, .int .i64 a2_1, .int .i64 a2_2]) (t := 27) ?_; intro gb499 hg w35 hbox hb; have BK499 := Aside0.mk (hbox); have GW499 := sg hg; have GE499 := sg hg; have NB498_499 := nl hg BK498; have NB499_498 := ng hg BK498; replace BK498 := bb BK498 hb; replace HB := bs hb; clear hb hbox hg) | ((with_reducible refine gate_dst (N := 6) rfl ?_); refine bx (N := 6) (cs := #[.int .i64 0, .int .i64 0, .int .i64 0]) (t := 27) ?_; intro gb500 hg w36 hbox hb; have BK500 := Aside0.mk (hbox); have GW500 := sg hg; have GE500 := sg hg; have NB498_500 := nl hg BK498; have NB500_498 := ng hg BK498; have NB499_500 := nl hg BK499; have NB500_499 := ng hg BK499; replace BK498 := bb BK498 hb; replace BK499 := bb BK499 hb; replace HB := bs hb; clear hb hbox hg; have hnb37 := NB498_499.out; have hnc37 := NB499_498.out; have hnb38 := NB498_500.out; have hnc38 := NB500_498.out; obtain ⟨hcz39_0, hcz39_1, hcz39_2, hfz39_0, hfz39_1, hfz39_2⟩ := c3 BK498; have hnb40 := NB499_500.out; have hnc40 := NB500_499.out; obtain ⟨hcz41_0, hcz41_1, hcz41_2, hfz41_0, hfz41_1, hfz41_2⟩ := c3 BK499) | ((with_reducible refine gate_dst (N := 14) rfl ?_); refine Kd.R_lit k27 _ 27 ?hg (N := 14) ?hd (xs := ([(⟨a1_0, a1_1, a1_2⟩ : S27), (⟨a2_0, a2_1, a2_2⟩ : S27)] : List (S27))) (inner := [.int .i64 a1_0, .int .i64 a1_1, .int .i64 a1_2, .int .i64 a2_0, .int .i64 a2_1, .int .i64 a2_2]) (ok := fun _ => True) (okp := fun _ => True) ?hr ?hp (fun _ hk => hk) trivial (Below.refl _ _) (Nat.le_refl _) (by simp) ?_; (case hd => rfl); (case hg => rfl); (case hr => first | (go_simp; done) | (go_simp; rfl)); (case hp => exact (Reps.c3 (show Kd.M k27 _ _ _ (⟨a1_0, a1_1, a1_2⟩ : S27) [.int .i64 a1_0, .int .i64 a1_1, .int .i64 a1_2] from (k27_mkM _ _ _ (⟨a1_0, a1_1, a1_2⟩ : S27) )) (Reps.c3 (show Kd.M k27 _ _ _ (⟨a2_0, a2_1, a2_2⟩ : S27) [.int .i64 a2_0, .int .i64 a2_1, .int .i64 a2_2] from (k27_mkM _ _ _ (⟨a2_0, a2_1, a2_2⟩ : S27) )) (Reps.none _ _)))); intro v502 w42 ho43 hb hg_ hnew_; clear hg_ hnew_; (first | rw [← Ny501.out] at ho43 | (simp only [Int.reduceToNat] at ho43; rw [← Ny501.out] at ho43)); have HO503 := Aside0.mk (Kd.R_lower (Kd.R_newB (Kd.R_newB (Kd.R_newB ho43 (g := gb498) (o := .cells #[.int .i64 a1_0, .int .i64 a1_1, .int .i64 a1_2] 27 (0, 0)) (be BK498)) (g := gb499) (o := .cells #[.int .i64 a2_0, .int .i64 a2_1, .int .i64 a2_2] 27 (0, 0)) (be BK499)) (g := gb500) (o := .cells #[.int .i64 0, .int .i64 0, .int .i64 0] 27 (0, 0)) (be BK500)) (below_size (by repeat (first | (with_reducible first | exact HB.out | apply below_alloc | apply pw_below_drewN | apply below_drew1 | refine below_set ?_ GE498.out | refine below_set ?_ GE499.out | refine below_set ?_ GE500.out) | exact HB.out)))); replace BK498 := bb BK498 hb; replace BK499 := bb BK499 hb; replace BK500 := bb BK500 hb; replace HB := bs hb; clear hb ho43; obtain ⟨Ao44, co44, eo44⟩ := Kd.R_slice HO503.out; subst eo44) | ((with_reducible refine gate_callee (f := 81) rfl ?_); refine g1 (some 15) Try.func81 #[.int .i64 a0, .slice Ao44 y501.length co44] ?_; (with_reducible refine (spec_l01Code.calls k a0 _ _ y501 t504 _ ?side1 ?side2 A4.out).mono ?_); (case side1 => repeat (first | exact (Kd.R_reads' HO503.out).2.2 | (with_reducible refine Kd.C_alloc ?_ _) | (with_reducible refine Kd.C_drewN ?_ _) | (with_reducible refine Kd.C_drew ?_))); (case side2 => exact (Kd.R_reads' HO503.out).2.1); rintro e w45 ⟨rfl, hb⟩; refine ⟨_, rfl, ?_⟩; replace HO503 := Aside0.mk (Kd.R_below (by (with_reducible repeat (first | apply Kd.R_alloc | apply Kd.R_drewN | apply Kd.R_drew)); exact HO503.out) hb); replace BK498 := bb BK498 hb; replace BK499 := bb BK499 hb; replace BK500 := bb BK500 hb; replace HB := bs hb; (try clear hb); (try clear hb2); (try clear hk); (try clear hi)))
   have n0_ := Aside0.mk (Kd.R_drew HO503.out)
   have n1_ := Aside0.mk (blk_drew BK498.out)
   have n2_ := Aside0.mk (blk_drew BK499.out)
   have n3_ := Aside0.mk (blk_drew BK500.out)
   have n4_ := Aside0.mk (below_drew1 HB.out)
   clear HO503
   clear BK498
   clear BK499
   clear BK500
   clear HB
   have HO503 := n0_
   have BK498 := n1_
   have BK499 := n2_
   have BK500 := n3_
   have HB := n4_
   clear n0_ n1_ n2_ n3_ n4_
   refine start_ (n := 13) (S := fun w' => w'.cell? ⟨gb498, 0, none⟩ = some (.int .i64 a1_0) ∧ w'.cell? ⟨gb498, 1, none⟩ = some (.int .i64 a1_1) ∧ w'.cell? ⟨gb498, 2, none⟩ = some (.int .i64 a1_2) ∧ w'.cell? ⟨gb499, 0, none⟩ = some (.int .i64 a2_0) ∧ w'.cell? ⟨gb499, 1, none⟩ = some (.int .i64 a2_1) ∧ w'.cell? ⟨gb499, 2, none⟩ = some (.int .i64 a2_2)) (ds := []) #[false, false, false, false, false, false, false, false, false, false, false, false, false] (by kernel_rfl) rfl rfl ⟨(blk_cell BK498.out 0).trans rfl, (blk_cell BK498.out 1).trans rfl, (blk_cell BK498.out 2).trans rfl, (blk_cell BK499.out 0).trans rfl, (blk_cell BK499.out 1).trans rfl, (blk_cell BK499.out 2).trans rfl⟩ (fun hHeld => ?_); refine with_tabW spec_JoinOf.tab4 spec_JoinOf.bits4 (fun HT_ HW_ => ?_)
   generalize w45.drew = w46 at HO503 BK498 BK499 BK500 HB hHeld ⊢
   refine pu 0 (some 21) #[true, false, false, false, false, false, false, false, false, false, false, false, false] HT_ ?_
   refine pu 2 (some 23) #[true, false, true, false, false, false, false, false, false, false, false, false, false] HT_ ?_
   refine take_ (i := 1) (N := some 22) (v := ?_) (a' := ?_) #[true, true, true, false, false, false, false, false, false, false, false, false, false] rfl rfl (take_ofW HT_.out HW_.out (by kernel_rfl)) (fun _ _ _ h => h) (Or.inl ⟨by rfl, ?_⟩) hHeld ?_ ?_
   rotate_left
   ·rintro w' ⟨s0, s1, s2, s3, s4, s5⟩
    go_simp
    with_reducible rfl
   rotate_left
   ·simp only [Act.put, List.setIfInBounds_toArray, List.set_cons_zero, List.set_cons_succ, i64_w, i32_w]
    rfl
   refine take_ (i := 3) (N := some 24) (v := ?_) (a' := ?_) #[true, true, true, true, false, false, false, false, false, false, false, false, false] rfl rfl (take_ofW HT_.out HW_.out (by kernel_rfl)) (fun _ _ _ h => h) (Or.inl ⟨by rfl, ?_⟩) hHeld ?_ ?_
   rotate_left
   ·rintro w' ⟨s0, s1, s2, s3, s4, s5⟩
    go_simp
    with_reducible rfl
   rotate_left
   ·simp only [Act.put, List.setIfInBounds_toArray, List.set_cons_zero, List.set_cons_succ, i64_w, i32_w]
    rfl
   refine take_ (i := 4) (N := some 25) (v := ?_) (a' := ?_) #[true, true, true, true, true, false, false, false, false, false, false, false, false] rfl rfl (take_ofW HT_.out HW_.out (by kernel_rfl)) (fun _ _ _ h => h) (Or.inl ⟨by rfl, ?_⟩) hHeld ?_ ?_
   rotate_left
   ·rintro w' ⟨s0, s1, s2, s3, s4, s5⟩
    go_simp
    with_reducible rfl
   rotate_left
   ·simp only [Act.put, List.setIfInBounds_toArray, List.set_cons_zero, List.set_cons_succ, i64_w, i32_w]
    rfl
   refine join_ (σ := Nat) 2 #[true, true, true, true, true, true, true, true, true, true, true, false, false] (fun s_ => [(26, .int .i64 t505), (27, .tuple #[.agg #[.int .i64 t506, .int .i64 t507, .int .i64 t508], .bool false]), (9, .pointer (some ⟨s_, 0, none⟩)), (20, .tuple #[.agg #[.int .i64 t506, .int .i64 t507, .int .i64 t508], .bool false]), (28, .agg #[.int .i64 t506, .int .i64 t507, .int .i64 t508]), (29, .bool false)]) (fun s_ w' => (w'.cell? ⟨gb498, 0, none⟩ = some (.int .i64 a1_0) ∧ w'.cell? ⟨gb498, 1, none⟩ = some (.int .i64 a1_1) ∧ w'.cell? ⟨gb498, 2, none⟩ = some (.int .i64 a1_2) ∧ w'.cell? ⟨gb499, 0, none⟩ = some (.int .i64 a2_0) ∧ w'.cell? ⟨gb499, 1, none⟩ = some (.int .i64 a2_1) ∧ w'.cell? ⟨gb499, 2, none⟩ = some (.int .i64 a2_2)) ∧ (Kd.R k27 27 w' w.heap.size (fun k_ => k_ ≠ gb498 ∧ k_ ≠ gb499 ∧ k_ ≠ gb500 ∧ k_ ≠ s_) (.slice Ao44 y501.length co44) y501) ∧ (w'.heap[gb498]? = some (.cells #[.int .i64 a1_0, .int .i64 a1_1, .int .i64 a1_2] 27 (0, 0))) ∧ (w'.heap[gb499]? = some (.cells #[.int .i64 a2_0, .int .i64 a2_1, .int .i64 a2_2] 27 (0, 0))) ∧ (w'.heap[gb500]? = some (.cells #[.int .i64 0, .int .i64 0, .int .i64 0] 27 (0, 0))) ∧ (w'.heap[s_]? = some (.cells #[.int .i64 0, .int .i64 0, .int .i64 0] 27 (0, 0))) ∧ (w.heap.size ≤ s_) ∧ (w.heap.size ≤ s_) ∧ (gb498 ≠ s_) ∧ (s_ ≠ gb498) ∧ (gb499 ≠ s_) ∧ (s_ ≠ gb499) ∧ (gb500 ≠ s_) ∧ (s_ ≠ gb500) ∧ (Below w.heap.size w w')) ?_ ?_
   rotate_left
   ·intro hCont
    refine two_ (i := 5) (j := 10) (Ni := some 26) (Nj := some 9) #[true, true, true, true, true, true, false, false, false, false, false, false, false] #[true, true, true, true, true, false, false, false, false, false, true, false, false] rfl rfl rfl rfl (two_of HT_.out (by kernel_rfl)) (by decide) (by decide) (fun K hK => ?_) (fun K hK => ?_)
    ·skip
     refine goes_ Try.func114 (by kernel_rfl) rfl #[.int .i64 a0, .agg #[.int .i64 a1_0, .int .i64 a1_1, .int .i64 a1_2], .agg #[.int .i64 a2_0, .int .i64 a2_1, .int .i64 a2_2]] (by rfl) rfl rfl (by (try simp only [List.map_toArray, List.map_cons, List.map_nil]); first | done | rfl | (simp only [List.length_drop, List.length_take]; rfl)) ?_
     with_reducible refine (spec_l02Join.calls k a0 a1_0 a1_1 a1_2 a2_0 a2_1 a2_2 t505 _ A6.out).mono ?_
     rintro e w47 ⟨rfl, hb⟩
     refine ⟨_, rfl, ?_⟩
     have n0_ := Aside0.mk (Kd.R_below (by (with_reducible repeat (first | apply Kd.R_alloc | apply Kd.R_drewN | apply Kd.R_drew)); exact HO503.out) hb)
     have n1_ := bb BK498 hb
     have n2_ := bb BK499 hb
     have n3_ := bb BK500 hb
     have n4_ := Aside0.mk (below_step (by repeat (first | (with_reducible first | exact HB.out | apply below_alloc | apply pw_below_drewN | apply below_drew1 | refine below_set ?_ GE498.out | refine below_set ?_ GE499.out | refine below_set ?_ GE500.out) | exact HB.out)) hb)
     clear HO503
     clear BK498
     clear BK499
     clear BK500
     clear HB
     have HO503 := n0_
     have BK498 := n1_
     have BK499 := n2_
     have BK500 := n3_
     have HB := n4_
     clear n0_ n1_ n2_ n3_ n4_
     (try clear hb)
     (try clear hb2)
     (try clear hk)
     (try clear hi)
     refine hK.out _ _ ⟨(blk_cell BK498.out 0).trans rfl, (blk_cell BK498.out 1).trans rfl, (blk_cell BK498.out 2).trans rfl, (blk_cell BK499.out 0).trans rfl, (blk_cell BK499.out 1).trans rfl, (blk_cell BK499.out 2).trans rfl⟩ (fun hHeld => ?_)
     clear hK K
     refine norm_ (a' := ?_) ?_ ?_
     rotate_left
     ·show Act.put _ (some 26) _ = _
      simp only [Act.put, List.setIfInBounds_toArray, List.set_cons_zero, List.set_cons_succ, i64_w, i32_w]
      rfl
     refine two_ (i := 6) (j := 10) (Ni := some 27) (Nj := some 9) #[true, true, true, true, true, true, true, false, false, false, false, false, false] #[true, true, true, true, true, true, false, false, false, false, true, false, false] rfl rfl rfl rfl (two_of HT_.out (by kernel_rfl)) (by decide) (by decide) (fun K hK => ?_) (fun K hK => ?_)
     ·skip
      refine goes_ Try.func113 (by kernel_rfl) rfl #[.int .i64 a0, .agg #[.int .i64 a1_0, .int .i64 a1_1, .int .i64 a1_2], .int .i64 t505] (by rfl) rfl rfl (by (try simp only [List.map_toArray, List.map_cons, List.map_nil]); first | done | rfl | (simp only [List.length_drop, List.length_take]; rfl)) ?_
      with_reducible refine (spec_l02Up.calls k a0 a1_0 a1_1 a1_2 t505 t506 t507 t508 false _ A7.out).mono ?_
      rintro e w48 ⟨rfl, hb⟩
      refine ⟨_, rfl, ?_⟩
      have n0_ := Aside0.mk (Kd.R_below (by (with_reducible repeat (first | apply Kd.R_alloc | apply Kd.R_drewN | apply Kd.R_drew)); exact HO503.out) hb)
      have n1_ := bb BK498 hb
      have n2_ := bb BK499 hb
      have n3_ := bb BK500 hb
      have n4_ := Aside0.mk (below_step (by repeat (first | (with_reducible first | exact HB.out | apply below_alloc | apply pw_below_drewN | apply below_drew1 | refine below_set ?_ GE498.out | refine below_set ?_ GE499.out | refine below_set ?_ GE500.out) | exact HB.out)) hb)
      clear HO503
      clear BK498
      clear BK499
      clear BK500
      clear HB
      have HO503 := n0_
      have BK498 := n1_
      have BK499 := n2_
      have BK500 := n3_
      have HB := n4_
      clear n0_ n1_ n2_ n3_ n4_
      (try clear hb)
      (try clear hb2)
      (try clear hk)
      (try clear hi)
      refine hK.out _ _ ⟨(blk_cell BK498.out 0).trans rfl, (blk_cell BK498.out 1).trans rfl, (blk_cell BK498.out 2).trans rfl, (blk_cell BK499.out 0).trans rfl, (blk_cell BK499.out 1).trans rfl, (blk_cell BK499.out 2).trans rfl⟩ (fun hHeld => ?_)
      clear hK K
      refine norm_ (a' := ?_) ?_ ?_
      rotate_left
      ·show Act.put _ (some 27) _ = _
       simp only [Act.put, List.setIfInBounds_toArray, List.set_cons_zero, List.set_cons_succ, i64_w, i32_w]
       rfl
      refine pu 7 (some 20) #[true, true, true, true, true, true, true, true, false, false, false, false, false] HT_ ?_
      refine pu 8 (some 28) #[true, true, true, true, true, true, true, true, true, false, false, false, false] HT_ ?_
      refine pu 9 (some 29) #[true, true, true, true, true, true, true, true, true, true, false, false, false] HT_ ?_
      refine one_ (i := 10) (N := some 9) #[true, true, true, true, true, true, true, true, true, true, true, false, false] rfl rfl (one_of HT_.out (by kernel_rfl)) (by decide) (fun K hK => ?_)
      refine box_step ?hg (N := 9) ?hd (cs := #[.int .i64 0, .int .i64 0, .int .i64 0]) (t := 27) ?hr ?_; (case hd => rfl); (case hg => rfl); (case hr => first | (go_simp; done) | (go_simp; rfl))
      intro gb510 hg w49 hbox hb
      have n0_ := Aside0.mk (Kd.R_below (Kd.R_elderB (by (with_reducible repeat (first | apply Kd.R_alloc | apply Kd.R_drewN | apply Kd.R_drew)); exact HO503.out) gb510 (Nat.le_of_eq hg.symm)) hb)
      have n1_ := bb BK498 hb
      have n2_ := bb BK499 hb
      have n3_ := bb BK500 hb
      have n4_ := Aside0.mk (below_step (by repeat (first | (with_reducible first | exact HB.out | apply below_alloc | apply pw_below_drewN | apply below_drew1 | refine below_set ?_ GE498.out | refine below_set ?_ GE499.out | refine below_set ?_ GE500.out) | exact HB.out)) hb)
      have n5_ := Aside0.mk (hbox)
      have n6_ := Aside0.mk ((by rw [hg]; exact (below_size (by repeat (first | (with_reducible first | exact HB.out | apply below_alloc | apply pw_below_drewN | apply below_drew1 | refine below_set ?_ GE498.out | refine below_set ?_ GE499.out | refine below_set ?_ GE500.out) | exact HB.out))) : w.heap.size ≤ gb510))
      have n7_ := Aside0.mk ((by rw [hg]; exact (below_size (by repeat (first | (with_reducible first | exact HB.out | apply below_alloc | apply pw_below_drewN | apply below_drew1 | refine below_set ?_ GE498.out | refine below_set ?_ GE499.out | refine below_set ?_ GE500.out) | exact HB.out))) : w.heap.size ≤ gb510))
      have n8_ := nl hg BK498
      have n9_ := ng hg BK498
      have n10_ := nl hg BK499
      have n11_ := ng hg BK499
      have n12_ := nl hg BK500
      have n13_ := ng hg BK500
      clear HO503
      clear BK498
      clear BK499
      clear BK500
      clear HB
      have HO503 := n0_
      have BK498 := n1_
      have BK499 := n2_
      have BK500 := n3_
      have HB := n4_
      have BK510 := n5_
      have GW510 := n6_
      have GE510 := n7_
      have NB498_510 := n8_
      have NB510_498 := n9_
      have NB499_510 := n10_
      have NB510_499 := n11_
      have NB500_510 := n12_
      have NB510_500 := n13_
      clear n0_ n1_ n2_ n3_ n4_ n5_ n6_ n7_ n8_ n9_ n10_ n11_ n12_ n13_
      clear hb hbox hg
      refine hK.out _ _ ⟨(blk_cell BK498.out 0).trans rfl, (blk_cell BK498.out 1).trans rfl, (blk_cell BK498.out 2).trans rfl, (blk_cell BK499.out 0).trans rfl, (blk_cell BK499.out 1).trans rfl, (blk_cell BK499.out 2).trans rfl⟩ (fun hHeld => ?_)
      clear hK K
      refine norm_ (a' := ?_) ?_ ?_
      rotate_left
      ·show Act.put _ (some 9) _ = _
       simp only [Act.put, List.setIfInBounds_toArray, List.set_cons_zero, List.set_cons_succ, i64_w, i32_w]
       rfl
      exact norm_ (by simp only [putAll, Act.put, List.setIfInBounds_toArray, List.set_cons_zero, List.set_cons_succ]) (hCont (gb510) _ ⟨hHeld, (by (with_reducible repeat (first | apply Kd.R_alloc | apply Kd.R_drewN | apply Kd.R_drew)); exact Kd.R_mono HO503.out (fun _ hk => ⟨hk.1.1.1.2, ⟨hk.1.1.2, ⟨hk.1.2, hk.2⟩⟩⟩)), (be BK498), (be BK499), (be BK500), (be BK510), GW510.out, GE510.out, NB498_510.out, NB510_498.out, NB499_510.out, NB510_499.out, NB500_510.out, NB510_500.out, (by repeat (first | (with_reducible first | exact HB.out | apply below_alloc | apply pw_below_drewN | apply below_drew1 | refine below_set ?_ GE498.out | refine below_set ?_ GE499.out | refine below_set ?_ GE500.out | refine below_set ?_ GE510.out) | exact HB.out))⟩)
     ·skip
      refine box_step ?hg (N := 9) ?hd (cs := #[.int .i64 0, .int .i64 0, .int .i64 0]) (t := 27) ?hr ?_; (case hd => rfl); (case hg => rfl); (case hr => first | (go_simp; done) | (go_simp; rfl))
      intro gb510 hg w48 hbox hb
      have n0_ := Aside0.mk (Kd.R_below (Kd.R_elderB (by (with_reducible repeat (first | apply Kd.R_alloc | apply Kd.R_drewN | apply Kd.R_drew)); exact HO503.out) gb510 (Nat.le_of_eq hg.symm)) hb)
      have n1_ := bb BK498 hb
      have n2_ := bb BK499 hb
      have n3_ := bb BK500 hb
      have n4_ := Aside0.mk (below_step (by repeat (first | (with_reducible first | exact HB.out | apply below_alloc | apply pw_below_drewN | apply below_drew1 | refine below_set ?_ GE498.out | refine below_set ?_ GE499.out | refine below_set ?_ GE500.out) | exact HB.out)) hb)
      have n5_ := Aside0.mk (hbox)
      have n6_ := Aside0.mk ((by rw [hg]; exact (below_size (by repeat (first | (with_reducible first | exact HB.out | apply below_alloc | apply pw_below_drewN | apply below_drew1 | refine below_set ?_ GE498.out | refine below_set ?_ GE499.out | refine below_set ?_ GE500.out) | exact HB.out))) : w.heap.size ≤ gb510))
      have n7_ := Aside0.mk ((by rw [hg]; exact (below_size (by repeat (first | (with_reducible first | exact HB.out | apply below_alloc | apply pw_below_drewN | apply below_drew1 | refine below_set ?_ GE498.out | refine below_set ?_ GE499.out | refine below_set ?_ GE500.out) | exact HB.out))) : w.heap.size ≤ gb510))
      have n8_ := nl hg BK498
      have n9_ := ng hg BK498
      have n10_ := nl hg BK499
      have n11_ := ng hg BK499
      have n12_ := nl hg BK500
      have n13_ := ng hg BK500
      clear HO503
      clear BK498
      clear BK499
      clear BK500
      clear HB
      have HO503 := n0_
      have BK498 := n1_
      have BK499 := n2_
      have BK500 := n3_
      have HB := n4_
      have BK510 := n5_
      have GW510 := n6_
      have GE510 := n7_
      have NB498_510 := n8_
      have NB510_498 := n9_
      have NB499_510 := n10_
      have NB510_499 := n11_
      have NB500_510 := n12_
      have NB510_500 := n13_
      clear n0_ n1_ n2_ n3_ n4_ n5_ n6_ n7_ n8_ n9_ n10_ n11_ n12_ n13_
      clear hb hbox hg
      refine hK.out _ _ ⟨(blk_cell BK498.out 0).trans rfl, (blk_cell BK498.out 1).trans rfl, (blk_cell BK498.out 2).trans rfl, (blk_cell BK499.out 0).trans rfl, (blk_cell BK499.out 1).trans rfl, (blk_cell BK499.out 2).trans rfl⟩ (fun hHeld => ?_)
      clear hK K
      refine norm_ (a' := ?_) ?_ ?_
      rotate_left
      ·show Act.put _ (some 9) _ = _
       simp only [Act.put, List.setIfInBounds_toArray, List.set_cons_zero, List.set_cons_succ, i64_w, i32_w]
       rfl
      refine one_ (i := 6) (N := some 27) #[true, true, true, true, true, true, true, false, false, false, true, false, false] rfl rfl (one_of HT_.out (by kernel_rfl)) (by decide) (fun K hK => ?_)
      refine goes_ Try.func113 (by kernel_rfl) rfl #[.int .i64 a0, .agg #[.int .i64 a1_0, .int .i64 a1_1, .int .i64 a1_2], .int .i64 t505] (by rfl) rfl rfl (by (try simp only [List.map_toArray, List.map_cons, List.map_nil]); first | done | rfl | (simp only [List.length_drop, List.length_take]; rfl)) ?_
      with_reducible refine (spec_l02Up.calls k a0 a1_0 a1_1 a1_2 t505 t506 t507 t508 false _ A7.out).mono ?_
      rintro e w49 ⟨rfl, hb⟩
      refine ⟨_, rfl, ?_⟩
      have n0_ := Aside0.mk (Kd.R_below (by (with_reducible repeat (first | apply Kd.R_alloc | apply Kd.R_drewN | apply Kd.R_drew)); exact HO503.out) hb)
      have n1_ := bb BK498 hb
      have n2_ := bb BK499 hb
      have n3_ := bb BK500 hb
      have n4_ := bb BK510 hb
      have n5_ := Aside0.mk (below_step (by repeat (first | (with_reducible first | exact HB.out | apply below_alloc | apply pw_below_drewN | apply below_drew1 | refine below_set ?_ GE498.out | refine below_set ?_ GE499.out | refine below_set ?_ GE500.out | refine below_set ?_ GE510.out) | exact HB.out)) hb)
      clear HO503
      clear BK498
      clear BK499
      clear BK500
      clear BK510
      clear HB
      have HO503 := n0_
      have BK498 := n1_
      have BK499 := n2_
      have BK500 := n3_
      have BK510 := n4_
      have HB := n5_
      clear n0_ n1_ n2_ n3_ n4_ n5_
      (try clear hb)
      (try clear hb2)
      (try clear hk)
      (try clear hi)
      refine hK.out _ _ ⟨(blk_cell BK498.out 0).trans rfl, (blk_cell BK498.out 1).trans rfl, (blk_cell BK498.out 2).trans rfl, (blk_cell BK499.out 0).trans rfl, (blk_cell BK499.out 1).trans rfl, (blk_cell BK499.out 2).trans rfl⟩ (fun hHeld => ?_)
      clear hK K
      refine norm_ (a' := ?_) ?_ ?_
      rotate_left
      ·show Act.put _ (some 27) _ = _
       simp only [Act.put, List.setIfInBounds_toArray, List.set_cons_zero, List.set_cons_succ, i64_w, i32_w]
       rfl
      refine pu 7 (some 20) #[true, true, true, true, true, true, true, true, false, false, true, false, false] HT_ ?_
      refine pu 8 (some 28) #[true, true, true, true, true, true, true, true, true, false, true, false, false] HT_ ?_
      refine pu 9 (some 29) #[true, true, true, true, true, true, true, true, true, true, true, false, false] HT_ ?_
      exact norm_ (by simp only [putAll, Act.put, List.setIfInBounds_toArray, List.set_cons_zero, List.set_cons_succ]) (hCont (gb510) _ ⟨hHeld, (by (with_reducible repeat (first | apply Kd.R_alloc | apply Kd.R_drewN | apply Kd.R_drew)); exact Kd.R_mono HO503.out (fun _ hk => ⟨hk.1.1.1.2, ⟨hk.1.1.2, ⟨hk.1.2, hk.2⟩⟩⟩)), (be BK498), (be BK499), (be BK500), (be BK510), GW510.out, GE510.out, NB498_510.out, NB510_498.out, NB499_510.out, NB510_499.out, NB500_510.out, NB510_500.out, (by repeat (first | (with_reducible first | exact HB.out | apply below_alloc | apply pw_below_drewN | apply below_drew1 | refine below_set ?_ GE498.out | refine below_set ?_ GE499.out | refine below_set ?_ GE500.out | refine below_set ?_ GE510.out) | exact HB.out))⟩)
    ·skip
     refine box_step ?hg (N := 9) ?hd (cs := #[.int .i64 0, .int .i64 0, .int .i64 0]) (t := 27) ?hr ?_; (case hd => rfl); (case hg => rfl); (case hr => first | (go_simp; done) | (go_simp; rfl))
     intro gb510 hg w47 hbox hb
     have n0_ := Aside0.mk (Kd.R_below (Kd.R_elderB (by (with_reducible repeat (first | apply Kd.R_alloc | apply Kd.R_drewN | apply Kd.R_drew)); exact HO503.out) gb510 (Nat.le_of_eq hg.symm)) hb)
     have n1_ := bb BK498 hb
     have n2_ := bb BK499 hb
     have n3_ := bb BK500 hb
     have n4_ := Aside0.mk (below_step (by repeat (first | (with_reducible first | exact HB.out | apply below_alloc | apply pw_below_drewN | apply below_drew1 | refine below_set ?_ GE498.out | refine below_set ?_ GE499.out | refine below_set ?_ GE500.out) | exact HB.out)) hb)
     have n5_ := Aside0.mk (hbox)
     have n6_ := Aside0.mk ((by rw [hg]; exact (below_size (by repeat (first | (with_reducible first | exact HB.out | apply below_alloc | apply pw_below_drewN | apply below_drew1 | refine below_set ?_ GE498.out | refine below_set ?_ GE499.out | refine below_set ?_ GE500.out) | exact HB.out))) : w.heap.size ≤ gb510))
     have n7_ := Aside0.mk ((by rw [hg]; exact (below_size (by repeat (first | (with_reducible first | exact HB.out | apply below_alloc | apply pw_below_drewN | apply below_drew1 | refine below_set ?_ GE498.out | refine below_set ?_ GE499.out | refine below_set ?_ GE500.out) | exact HB.out))) : w.heap.size ≤ gb510))
     have n8_ := nl hg BK498
     have n9_ := ng hg BK498
     have n10_ := nl hg BK499
     have n11_ := ng hg BK499
     have n12_ := nl hg BK500
     have n13_ := ng hg BK500
     clear HO503
     clear BK498
     clear BK499
     clear BK500
     clear HB
     have HO503 := n0_
     have BK498 := n1_
     have BK499 := n2_
     have BK500 := n3_
     have HB := n4_
     have BK510 := n5_
     have GW510 := n6_
     have GE510 := n7_
     have NB498_510 := n8_
     have NB510_498 := n9_
     have NB499_510 := n10_
     have NB510_499 := n11_
     have NB500_510 := n12_
     have NB510_500 := n13_
     clear n0_ n1_ n2_ n3_ n4_ n5_ n6_ n7_ n8_ n9_ n10_ n11_ n12_ n13_
     clear hb hbox hg
     refine hK.out _ _ ⟨(blk_cell BK498.out 0).trans rfl, (blk_cell BK498.out 1).trans rfl, (blk_cell BK498.out 2).trans rfl, (blk_cell BK499.out 0).trans rfl, (blk_cell BK499.out 1).trans rfl, (blk_cell BK499.out 2).trans rfl⟩ (fun hHeld => ?_)
     clear hK K
     refine norm_ (a' := ?_) ?_ ?_
     rotate_left
     ·show Act.put _ (some 9) _ = _
      simp only [Act.put, List.setIfInBounds_toArray, List.set_cons_zero, List.set_cons_succ, i64_w, i32_w]
      rfl
     refine one_ (i := 5) (N := some 26) #[true, true, true, true, true, true, false, false, false, false, true, false, false] rfl rfl (one_of HT_.out (by kernel_rfl)) (by decide) (fun K hK => ?_)
     refine goes_ Try.func114 (by kernel_rfl) rfl #[.int .i64 a0, .agg #[.int .i64 a1_0, .int .i64 a1_1, .int .i64 a1_2], .agg #[.int .i64 a2_0, .int .i64 a2_1, .int .i64 a2_2]] (by rfl) rfl rfl (by (try simp only [List.map_toArray, List.map_cons, List.map_nil]); first | done | rfl | (simp only [List.length_drop, List.length_take]; rfl)) ?_
     with_reducible refine (spec_l02Join.calls k a0 a1_0 a1_1 a1_2 a2_0 a2_1 a2_2 t505 _ A6.out).mono ?_
     rintro e w48 ⟨rfl, hb⟩
     refine ⟨_, rfl, ?_⟩
     have n0_ := Aside0.mk (Kd.R_below (by (with_reducible repeat (first | apply Kd.R_alloc | apply Kd.R_drewN | apply Kd.R_drew)); exact HO503.out) hb)
     have n1_ := bb BK498 hb
     have n2_ := bb BK499 hb
     have n3_ := bb BK500 hb
     have n4_ := bb BK510 hb
     have n5_ := Aside0.mk (below_step (by repeat (first | (with_reducible first | exact HB.out | apply below_alloc | apply pw_below_drewN | apply below_drew1 | refine below_set ?_ GE498.out | refine below_set ?_ GE499.out | refine below_set ?_ GE500.out | refine below_set ?_ GE510.out) | exact HB.out)) hb)
     clear HO503
     clear BK498
     clear BK499
     clear BK500
     clear BK510
     clear HB
     have HO503 := n0_
     have BK498 := n1_
     have BK499 := n2_
     have BK500 := n3_
     have BK510 := n4_
     have HB := n5_
     clear n0_ n1_ n2_ n3_ n4_ n5_
     (try clear hb)
     (try clear hb2)
     (try clear hk)
     (try clear hi)
     refine hK.out _ _ ⟨(blk_cell BK498.out 0).trans rfl, (blk_cell BK498.out 1).trans rfl, (blk_cell BK498.out 2).trans rfl, (blk_cell BK499.out 0).trans rfl, (blk_cell BK499.out 1).trans rfl, (blk_cell BK499.out 2).trans rfl⟩ (fun hHeld => ?_)
     clear hK K
     refine norm_ (a' := ?_) ?_ ?_
     rotate_left
     ·show Act.put _ (some 26) _ = _
      simp only [Act.put, List.setIfInBounds_toArray, List.set_cons_zero, List.set_cons_succ, i64_w, i32_w]
      rfl
     refine one_ (i := 6) (N := some 27) #[true, true, true, true, true, true, true, false, false, false, true, false, false] rfl rfl (one_of HT_.out (by kernel_rfl)) (by decide) (fun K hK => ?_)
     refine goes_ Try.func113 (by kernel_rfl) rfl #[.int .i64 a0, .agg #[.int .i64 a1_0, .int .i64 a1_1, .int .i64 a1_2], .int .i64 t505] (by rfl) rfl rfl (by (try simp only [List.map_toArray, List.map_cons, List.map_nil]); first | done | rfl | (simp only [List.length_drop, List.length_take]; rfl)) ?_
     with_reducible refine (spec_l02Up.calls k a0 a1_0 a1_1 a1_2 t505 t506 t507 t508 false _ A7.out).mono ?_
     rintro e w49 ⟨rfl, hb⟩
     refine ⟨_, rfl, ?_⟩
     have n0_ := Aside0.mk (Kd.R_below (by (with_reducible repeat (first | apply Kd.R_alloc | apply Kd.R_drewN | apply Kd.R_drew)); exact HO503.out) hb)
     have n1_ := bb BK498 hb
     have n2_ := bb BK499 hb
     have n3_ := bb BK500 hb
     have n4_ := bb BK510 hb
     have n5_ := Aside0.mk (below_step (by repeat (first | (with_reducible first | exact HB.out | apply below_alloc | apply pw_below_drewN | apply below_drew1 | refine below_set ?_ GE498.out | refine below_set ?_ GE499.out | refine below_set ?_ GE500.out | refine below_set ?_ GE510.out) | exact HB.out)) hb)
     clear HO503
     clear BK498
     clear BK499
     clear BK500
     clear BK510
     clear HB
     have HO503 := n0_
     have BK498 := n1_
     have BK499 := n2_
     have BK500 := n3_
     have BK510 := n4_
     have HB := n5_
     clear n0_ n1_ n2_ n3_ n4_ n5_
     (try clear hb)
     (try clear hb2)
     (try clear hk)
     (try clear hi)
     refine hK.out _ _ ⟨(blk_cell BK498.out 0).trans rfl, (blk_cell BK498.out 1).trans rfl, (blk_cell BK498.out 2).trans rfl, (blk_cell BK499.out 0).trans rfl, (blk_cell BK499.out 1).trans rfl, (blk_cell BK499.out 2).trans rfl⟩ (fun hHeld => ?_)
     clear hK K
     refine norm_ (a' := ?_) ?_ ?_
     rotate_left
     ·show Act.put _ (some 27) _ = _
      simp only [Act.put, List.setIfInBounds_toArray, List.set_cons_zero, List.set_cons_succ, i64_w, i32_w]
      rfl
     refine pu 7 (some 20) #[true, true, true, true, true, true, true, true, false, false, true, false, false] HT_ ?_
     refine pu 8 (some 28) #[true, true, true, true, true, true, true, true, true, false, true, false, false] HT_ ?_
     refine pu 9 (some 29) #[true, true, true, true, true, true, true, true, true, true, true, false, false] HT_ ?_
     exact norm_ (by simp only [putAll, Act.put, List.setIfInBounds_toArray, List.set_cons_zero, List.set_cons_succ]) (hCont (gb510) _ ⟨hHeld, (by (with_reducible repeat (first | apply Kd.R_alloc | apply Kd.R_drewN | apply Kd.R_drew)); exact Kd.R_mono HO503.out (fun _ hk => ⟨hk.1.1.1.2, ⟨hk.1.1.2, ⟨hk.1.2, hk.2⟩⟩⟩)), (be BK498), (be BK499), (be BK500), (be BK510), GW510.out, GE510.out, NB498_510.out, NB510_498.out, NB499_510.out, NB510_499.out, NB500_510.out, NB510_500.out, (by repeat (first | (with_reducible first | exact HB.out | apply below_alloc | apply pw_below_drewN | apply below_drew1 | refine below_set ?_ GE498.out | refine below_set ?_ GE499.out | refine below_set ?_ GE500.out | refine below_set ?_ GE510.out) | exact HB.out))⟩)
   rintro gb510 w50 ⟨hS_, h0_, h1_, h2_, h3_, h4_, h5_, h6_, h7_, h8_, h9_, h10_, h11_, h12_, h13_⟩
   have n0_ : Aside0 (Kd.R k27 27 w50 w.heap.size (fun k_ => k_ ≠ gb498 ∧ k_ ≠ gb499 ∧ k_ ≠ gb500 ∧ k_ ≠ gb510) (.slice Ao44 y501.length co44) y501) := ⟨h0_⟩
   have n1_ : Aside0 (w50.heap[gb498]? = some (.cells #[.int .i64 a1_0, .int .i64 a1_1, .int .i64 a1_2] 27 (0, 0))) := ⟨h1_⟩
   have n2_ : Aside0 (w50.heap[gb499]? = some (.cells #[.int .i64 a2_0, .int .i64 a2_1, .int .i64 a2_2] 27 (0, 0))) := ⟨h2_⟩
   have n3_ : Aside0 (w50.heap[gb500]? = some (.cells #[.int .i64 0, .int .i64 0, .int .i64 0] 27 (0, 0))) := ⟨h3_⟩
   have n4_ : Aside0 (w50.heap[gb510]? = some (.cells #[.int .i64 0, .int .i64 0, .int .i64 0] 27 (0, 0))) := ⟨h4_⟩
   have n5_ : Aside0 (w.heap.size ≤ gb510) := ⟨h5_⟩
   have n6_ : Aside0 (w.heap.size ≤ gb510) := ⟨h6_⟩
   have n7_ : Aside0 (gb498 ≠ gb510) := ⟨h7_⟩
   have n8_ : Aside0 (gb510 ≠ gb498) := ⟨h8_⟩
   have n9_ : Aside0 (gb499 ≠ gb510) := ⟨h9_⟩
   have n10_ : Aside0 (gb510 ≠ gb499) := ⟨h10_⟩
   have n11_ : Aside0 (gb500 ≠ gb510) := ⟨h11_⟩
   have n12_ : Aside0 (gb510 ≠ gb500) := ⟨h12_⟩
   have n13_ : Aside0 (Below w.heap.size w w50) := ⟨h13_⟩
   clear HO503
   clear BK498
   clear BK499
   clear BK500
   clear HB
   clear h0_ h1_ h2_ h3_ h4_ h5_ h6_ h7_ h8_ h9_ h10_ h11_ h12_ h13_
   have HO503 := n0_
   have BK498 := n1_
   have BK499 := n2_
   have BK500 := n3_
   have BK510 := n4_
   have GW510 := n5_
   have GE510 := n6_
   have NB498_510 := n7_
   have NB510_498 := n8_
   have NB499_510 := n9_
   have NB510_499 := n10_
   have NB500_510 := n11_
   have NB510_500 := n12_
   have HB := n13_
   clear n0_ n1_ n2_ n3_ n4_ n5_ n6_ n7_ n8_ n9_ n10_ n11_ n12_ n13_
   have hHeld : w50.cell? ⟨gb498, 0, none⟩ = some (.int .i64 a1_0) ∧ w50.cell? ⟨gb498, 1, none⟩ = some (.int .i64 a1_1) ∧ w50.cell? ⟨gb498, 2, none⟩ = some (.int .i64 a1_2) ∧ w50.cell? ⟨gb499, 0, none⟩ = some (.int .i64 a2_0) ∧ w50.cell? ⟨gb499, 1, none⟩ = some (.int .i64 a2_1) ∧ w50.cell? ⟨gb499, 2, none⟩ = some (.int .i64 a2_2) := hS_
   refine norm_ (a' := ?_) ?_ ?_
   rotate_left
   ·simp only [putAll, Act.put, List.setIfInBounds_toArray, List.set_cons_zero, List.set_cons_succ]
    rfl
   refine one_ (i := 11) (N := none) #[true, true, true, true, true, true, true, true, true, true, true, true, false] rfl rfl (one_of HT_.out (by kernel_rfl)) (by decide) (fun K hK => ?_)
   have hs51 : w50.cell? ⟨gb510, 0, none⟩ = some (.int .i64 0) := (blk_cell BK510.out 0).trans rfl
   have hfs51 := blk_frozen BK510.out 0
   have hns51_0 := NB498_510.out
   have hns51_1 := NB499_510.out
   have hns51_2 := NB500_510.out
   have hms51_0 := NB510_498.out
   have hms51_1 := NB510_499.out
   have hms51_2 := NB510_500.out
   have hs52 : w50.cell? ⟨gb510, 1, none⟩ = some (.int .i64 0) := (blk_cell BK510.out 1).trans rfl
   have hfs52 := blk_frozen BK510.out 1
   have hns52_0 := NB498_510.out
   have hns52_1 := NB499_510.out
   have hns52_2 := NB500_510.out
   have hms52_0 := NB510_498.out
   have hms52_1 := NB510_499.out
   have hms52_2 := NB510_500.out
   have hs53 : w50.cell? ⟨gb510, 2, none⟩ = some (.int .i64 0) := (blk_cell BK510.out 2).trans rfl
   have hfs53 := blk_frozen BK510.out 2
   have hns53_0 := NB498_510.out
   have hns53_1 := NB499_510.out
   have hns53_2 := NB500_510.out
   have hms53_0 := NB510_498.out
   have hms53_1 := NB510_499.out
   have hms53_2 := NB510_500.out
   refine skip_ (w1 := ?_) (by rfl) rfl ?_ ?_
   rotate_left
   ·go_simp
    rfl
   refine hK.out _ _ ⟨((cell_far (p := ⟨gb510, _, none⟩) NB498_510.out _).trans (((cell_far (p := ⟨gb510, _, none⟩) NB498_510.out _).trans (((cell_far (p := ⟨gb510, _, none⟩) NB498_510.out _).trans (hHeld.1)))))), ((cell_far (p := ⟨gb510, _, none⟩) NB498_510.out _).trans (((cell_far (p := ⟨gb510, _, none⟩) NB498_510.out _).trans (((cell_far (p := ⟨gb510, _, none⟩) NB498_510.out _).trans (hHeld.2.1)))))), ((cell_far (p := ⟨gb510, _, none⟩) NB498_510.out _).trans (((cell_far (p := ⟨gb510, _, none⟩) NB498_510.out _).trans (((cell_far (p := ⟨gb510, _, none⟩) NB498_510.out _).trans (hHeld.2.2.1)))))), ((cell_far (p := ⟨gb510, _, none⟩) NB499_510.out _).trans (((cell_far (p := ⟨gb510, _, none⟩) NB499_510.out _).trans (((cell_far (p := ⟨gb510, _, none⟩) NB499_510.out _).trans (hHeld.2.2.2.1)))))), ((cell_far (p := ⟨gb510, _, none⟩) NB499_510.out _).trans (((cell_far (p := ⟨gb510, _, none⟩) NB499_510.out _).trans (((cell_far (p := ⟨gb510, _, none⟩) NB499_510.out _).trans (hHeld.2.2.2.2.1)))))), ((cell_far (p := ⟨gb510, _, none⟩) NB499_510.out _).trans (((cell_far (p := ⟨gb510, _, none⟩) NB499_510.out _).trans (((cell_far (p := ⟨gb510, _, none⟩) NB499_510.out _).trans (hHeld.2.2.2.2.2))))))⟩ (fun hHeld => ?_)
   clear hK K
   refine pu 12 (some 10) #[true, true, true, true, true, true, true, true, true, true, true, true, true] HT_ ?_
   refine done_ (done_of HT_.out (by kernel_rfl)) ?_
   have hnb54 := NB500_510.out
   have hnc54 := NB510_500.out
   have hcz55_0 : w50.cell? ⟨gb500, 0, none⟩ = some (.int .i64 0) := (blk_cell BK500.out 0).trans rfl
   have hcz55_1 : w50.cell? ⟨gb500, 1, none⟩ = some (.int .i64 0) := (blk_cell BK500.out 1).trans rfl
   have hcz55_2 : w50.cell? ⟨gb500, 2, none⟩ = some (.int .i64 0) := (blk_cell BK500.out 2).trans rfl
   have hfz55_0 := blk_frozen BK500.out 0
   have hfz55_1 := blk_frozen BK500.out 1
   have hfz55_2 := blk_frozen BK500.out 2
   try go_wp2
   refine bodyPost_ret (results_ct rfl _ _ gb500 27 #[.int .i64 0, .int .i64 0, .int .i64 0] (0, 0) _ rfl (by (with_reducible repeat (first | apply bn | apply bd | apply ba)); refine blk_put (cs := #[.int .i64 0, .int .i64 0, .int .i64 0]) ?_ 2 _ rfl; (with_reducible repeat (first | apply bn | apply bd | apply ba)); refine blk_put (cs := #[.int .i64 0, .int .i64 0, .int .i64 0]) ?_ 1 _ rfl; (with_reducible repeat (first | apply bn | apply bd | apply ba)); refine blk_put (cs := #[.int .i64 0, .int .i64 0, .int .i64 0]) ?_ 0 _ rfl; (with_reducible repeat (first | apply bn | apply bd | apply ba)); refine blk_far ?_ NB500_510.out _; (with_reducible repeat (first | apply bn | apply bd | apply ba)); refine blk_far ?_ NB500_510.out _; (with_reducible repeat (first | apply bn | apply bd | apply ba)); refine blk_far ?_ NB500_510.out _; (with_reducible repeat (first | apply bn | apply bd | apply ba)); exact BK500.out) Try.underlying27 rfl (by kernel_rfl)) rfl ?_
   exact ⟨by first | rfl | (simp [errW_none, errW_some] <;> rfl) | (simp [*, errW_none, errW_some] <;> rfl), by repeat (first | (with_reducible first | exact HB.out | apply below_alloc | apply pw_below_drewN | apply below_drew1 | refine below_set ?_ GE498.out | refine below_set ?_ GE499.out | refine below_set ?_ GE500.out | refine below_set ?_ GE510.out) | exact HB.out)⟩
 ·rw [if_neg c5] at H
  have c5b0 : (t504 == 0) = false := beq_eq_false_iff_ne.mpr c5
  have c5b1 : (t504 != 0) = true := bne_iff_ne.mpr c5
  simp only [Option.some.injEq, Prod.mk.injEq] at H
  obtain ⟨rfl, rfl, rfl, rfl⟩ := H
  go_enter Try.func48, Try.ntmps48
  go_wp2_with (first | ((with_reducible refine gate_dst (N := 4) rfl ?_); refine bx (N := 4) (cs := #[.int .i64 a1_0, .int .i64 a1_1, .int .i64 a1_2]) (t := 27) ?_; intro gb498 hg w56 hbox hb; have BK498 := Aside0.mk (hbox); have GW498 := sg hg; have GE498 := sg hg; replace HB := bs hb; clear hb hbox hg) | ((with_reducible refine gate_dst (N := 5) rfl ?_); refine bx (N := 5) (cs := #[.int .i64 a2_0, .int .i64 a2_1, .int .i64 a2_2]) (t := 27) ?_; intro gb499 hg w57 hbox hb; have BK499 := Aside0.mk (hbox); have GW499 := sg hg; have GE499 := sg hg; have NB498_499 := nl hg BK498; have NB499_498 := ng hg BK498; replace BK498 := bb BK498 hb; replace HB := bs hb; clear hb hbox hg) | ((with_reducible refine gate_dst (N := 6) rfl ?_); refine bx (N := 6) (cs := #[.int .i64 0, .int .i64 0, .int .i64 0]) (t := 27) ?_; intro gb500 hg w58 hbox hb; have BK500 := Aside0.mk (hbox); have GW500 := sg hg; have GE500 := sg hg; have NB498_500 := nl hg BK498; have NB500_498 := ng hg BK498; have NB499_500 := nl hg BK499; have NB500_499 := ng hg BK499; replace BK498 := bb BK498 hb; replace BK499 := bb BK499 hb; replace HB := bs hb; clear hb hbox hg; have hnb59 := NB498_499.out; have hnc59 := NB499_498.out; have hnb60 := NB498_500.out; have hnc60 := NB500_498.out; obtain ⟨hcz61_0, hcz61_1, hcz61_2, hfz61_0, hfz61_1, hfz61_2⟩ := c3 BK498; have hnb62 := NB499_500.out; have hnc62 := NB500_499.out; obtain ⟨hcz63_0, hcz63_1, hcz63_2, hfz63_0, hfz63_1, hfz63_2⟩ := c3 BK499) | ((with_reducible refine gate_dst (N := 14) rfl ?_); refine Kd.R_lit k27 _ 27 ?hg (N := 14) ?hd (xs := ([(⟨a1_0, a1_1, a1_2⟩ : S27), (⟨a2_0, a2_1, a2_2⟩ : S27)] : List (S27))) (inner := [.int .i64 a1_0, .int .i64 a1_1, .int .i64 a1_2, .int .i64 a2_0, .int .i64 a2_1, .int .i64 a2_2]) (ok := fun _ => True) (okp := fun _ => True) ?hr ?hp (fun _ hk => hk) trivial (Below.refl _ _) (Nat.le_refl _) (by simp) ?_; (case hd => rfl); (case hg => rfl); (case hr => first | (go_simp; done) | (go_simp; rfl)); (case hp => exact (Reps.c3 (show Kd.M k27 _ _ _ (⟨a1_0, a1_1, a1_2⟩ : S27) [.int .i64 a1_0, .int .i64 a1_1, .int .i64 a1_2] from (k27_mkM _ _ _ (⟨a1_0, a1_1, a1_2⟩ : S27) )) (Reps.c3 (show Kd.M k27 _ _ _ (⟨a2_0, a2_1, a2_2⟩ : S27) [.int .i64 a2_0, .int .i64 a2_1, .int .i64 a2_2] from (k27_mkM _ _ _ (⟨a2_0, a2_1, a2_2⟩ : S27) )) (Reps.none _ _)))); intro v502 w64 ho65 hb hg_ hnew_; clear hg_ hnew_; (first | rw [← Ny501.out] at ho65 | (simp only [Int.reduceToNat] at ho65; rw [← Ny501.out] at ho65)); have HO503 := Aside0.mk (Kd.R_lower (Kd.R_newB (Kd.R_newB (Kd.R_newB ho65 (g := gb498) (o := .cells #[.int .i64 a1_0, .int .i64 a1_1, .int .i64 a1_2] 27 (0, 0)) (be BK498)) (g := gb499) (o := .cells #[.int .i64 a2_0, .int .i64 a2_1, .int .i64 a2_2] 27 (0, 0)) (be BK499)) (g := gb500) (o := .cells #[.int .i64 0, .int .i64 0, .int .i64 0] 27 (0, 0)) (be BK500)) (below_size (by repeat (first | (with_reducible first | exact HB.out | apply below_alloc | apply pw_below_drewN | apply below_drew1 | refine below_set ?_ GE498.out | refine below_set ?_ GE499.out | refine below_set ?_ GE500.out) | exact HB.out)))); replace BK498 := bb BK498 hb; replace BK499 := bb BK499 hb; replace BK500 := bb BK500 hb; replace HB := bs hb; clear hb ho65; obtain ⟨Ao66, co66, eo66⟩ := Kd.R_slice HO503.out; subst eo66) | ((with_reducible refine gate_callee (f := 81) rfl ?_); refine g1 (some 15) Try.func81 #[.int .i64 a0, .slice Ao66 y501.length co66] ?_; (with_reducible refine (spec_l01Code.calls k a0 _ _ y501 t504 _ ?side1 ?side2 A4.out).mono ?_); (case side1 => repeat (first | exact (Kd.R_reads' HO503.out).2.2 | (with_reducible refine Kd.C_alloc ?_ _) | (with_reducible refine Kd.C_drewN ?_ _) | (with_reducible refine Kd.C_drew ?_))); (case side2 => exact (Kd.R_reads' HO503.out).2.1); rintro e w67 ⟨rfl, hb⟩; refine ⟨_, rfl, ?_⟩; replace HO503 := Aside0.mk (Kd.R_below (by (with_reducible repeat (first | apply Kd.R_alloc | apply Kd.R_drewN | apply Kd.R_drew)); exact HO503.out) hb); replace BK498 := bb BK498 hb; replace BK499 := bb BK499 hb; replace BK500 := bb BK500 hb; replace HB := bs hb; (try clear hb); (try clear hb2); (try clear hk); (try clear hi); obtain ⟨hcz68_0, hcz68_1, hcz68_2, hfz68_0, hfz68_1, hfz68_2⟩ := c3 BK500))
  refine bodyPost_ret (results_ct rfl _ _ gb500 27 #[.int .i64 0, .int .i64 0, .int .i64 0] (0, 0) _ rfl (by (with_reducible repeat (first | apply bn | apply bd | apply ba)); refine blk_put (cs := #[.int .i64 0, .int .i64 0, .int .i64 0]) ?_ 2 _ rfl; (with_reducible repeat (first | apply bn | apply bd | apply ba)); refine blk_put (cs := #[.int .i64 0, .int .i64 0, .int .i64 0]) ?_ 1 _ rfl; (with_reducible repeat (first | apply bn | apply bd | apply ba)); refine blk_put (cs := #[.int .i64 0, .int .i64 0, .int .i64 0]) ?_ 0 _ rfl; (with_reducible repeat (first | apply bn | apply bd | apply ba)); exact BK500.out) Try.underlying27 rfl (by kernel_rfl)) rfl ?_
  exact ⟨by first | rfl | (simp [errW_none, errW_some] <;> rfl) | (simp [*, errW_none, errW_some] <;> rfl), by repeat (first | (with_reducible first | exact HB.out | apply below_alloc | apply pw_below_drewN | apply below_drew1 | refine below_set ?_ GE498.out | refine below_set ?_ GE499.out | refine below_set ?_ GE500.out) | exact HB.out)⟩

end Go.Proofs.Ytpmepopagapeiaa.PFnTreeDistances

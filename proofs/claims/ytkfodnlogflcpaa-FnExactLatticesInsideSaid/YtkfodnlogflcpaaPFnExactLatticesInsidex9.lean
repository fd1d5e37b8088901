-- Printed by the kit's print and repaired by a program of this session.
import Derived.Test.YtkfodnlogflcpaaPFnExactLatticesInsidex0
import Derived.Test.YtkfodnlogflcpaaPFnExactLatticesInsidex3
import Derived.Test.YtkfodnlogflcpaaPFnExactLatticesInsidex4
import Derived.Test.YtkfodnlogflcpaaPFnExactLatticesInsidex7
import Derived.Test.YtkfodnlogflcpaaPFnExactLatticesInsidex8
namespace Go.Proofs.Ytkfodnlogflcpaa.PFnExactLatticesInside
open Go.RowKit Go.Proofs.YtkfodnlogflcpaaW.PrintWords Go.Proofs.YtkfodnlogflcpaaW.PrintLast Go.Proofs.YtkfodnlogflcpaaW.PrintMore
attribute [local go_sem] max2_int min2_int max_two min_two max_three min_three max_four min_four   -- for this text's walks alone
set_option linter.unusedVariables false
set_option linter.unusedSimpArgs false

/-! ### laws_FnExactLatticesInside: function 3 -/
mutual
def laws_FnExactLatticesInside.j0 : Nat → Int → Int → List (S27) → Int → List (S27) → Bool → Int → Int → Int → Option (Bool)
 | 0, _, _, _, _, _, _, _, _, _ => none
 | k + 1, x0, x2, x7, x8, x9, x39, x239000, x239001, x239002 => if x39 = true then (some false) else ((laws_markLatticeS.f k x9 1).bind fun bt254 => ((laws_heldLatticeS.f k bt254.2 1).bind fun t256 => (if t256 < 0 then (some false) else (if t256 = bt254.1 then ((laws_toLattice.f x239000 x239001 x239002).bind fun bt257 => ((impl_LatticesInside.f k x0 bt257.1 bt257.2.1 bt257.2.2 x2).bind fun bt260 => ((laws_eqLatticeS.f k bt260.1 x7).bind fun t264 => (if t264 = true then (laws_FnExactLatticesInside.j1 k bt254.2 bt254.1 (bt260.2 != x8)) else (laws_FnExactLatticesInside.j1 k bt254.2 bt254.1 true))))) else (some false)))))
def laws_FnExactLatticesInside.j1 : Nat → List (S27) → Int → Bool → Option (Bool)
 | 0, _, _, _ => none
 | k + 1, x9, x11, x67 => if x67 = true then (some false) else ((laws_heldLatticeS.f k x9 1).bind fun t265 => (if t265 < 0 then (some false) else (if t265 = x11 then (some true) else (some false))))
end
def laws_FnExactLatticesInside.f (k : Nat) (a0 : Int) (a1_0 : Int) (a1_1 : Int) (a1_2 : Int) (a2 : Int) : Option (Bool) := (laws_toLattice.f a1_0 a1_1 a1_2).bind fun bt239 => ((spec_LatticesInside.f k a0 bt239.1 bt239.2.1 bt239.2.2 a2).bind fun bt242 => ((laws_toLattice.f a1_0 a1_1 a1_2).bind fun bt246 => ((impl_LatticesInside.f k a0 bt246.1 bt246.2.1 bt246.2.2 a2).bind fun bt249 => ((laws_eqLatticeS.f k bt249.1 bt242.1).bind fun t253 => (if t253 = true then (laws_FnExactLatticesInside.j0 k a0 a2 bt242.1 bt242.2 bt249.1 (bt249.2 != bt242.2) a1_0 a1_1 a1_2) else (laws_FnExactLatticesInside.j0 k a0 a2 bt242.1 bt242.2 bt249.1 true a1_0 a1_1 a1_2))))))
theorem laws_FnExactLatticesInside.mono_l : ∀ k, (∀ y0 y1 y2 y3 y4 y5 y6 y7 y8, LeO (laws_FnExactLatticesInside.j0 k y0 y1 y2 y3 y4 y5 y6 y7 y8) (laws_FnExactLatticesInside.j0 (k + 1) y0 y1 y2 y3 y4 y5 y6 y7 y8)) ∧ (∀ y0 y1 y2, LeO (laws_FnExactLatticesInside.j1 k y0 y1 y2) (laws_FnExactLatticesInside.j1 (k + 1) y0 y1 y2))
 | 0 => ⟨fun _ _ _ _ _ _ _ _ _ r h => by simp [laws_FnExactLatticesInside.j0] at h, fun _ _ _ r h => by simp [laws_FnExactLatticesInside.j1] at h⟩
 | k + 1 => by
  obtain ⟨ih0, ih1⟩ := laws_FnExactLatticesInside.mono_l k
  refine ⟨?_, ?_⟩
  ·intro y0 y1 y2 y3 y4 y5 y6 y7 y8
   unfold laws_FnExactLatticesInside.j0
   repeat' first
   | (with_reducible exact ih0 _ _ _ _ _ _ _ _ _)
   | (with_reducible exact ih1 _ _ _)
   | (with_reducible exact impl_LatticesInside.mono _ _ _ _ _ _)
   | (with_reducible exact laws_eqLatticeS.mono _ _ _)
   | (with_reducible exact laws_heldLatticeS.mono _ _ _)
   | (with_reducible exact laws_markLatticeS.mono _ _ _)
   | (with_reducible exact spec_LatticesInside.mono _ _ _ _ _ _)
   | (with_reducible exact LeO.refl _)
   | (with_reducible exact LeO.none _)
   | (with_reducible refine LeO.ite ?_ ?_)
   | (with_reducible refine LeO.bind ?_ (fun _ => ?_))
   | refine LeO.ite ?_ ?_
   | refine LeO.bind ?_ (fun _ => ?_)
  ·intro y0 y1 y2
   unfold laws_FnExactLatticesInside.j1
   repeat' first
   | (with_reducible exact ih0 _ _ _ _ _ _ _ _ _)
   | (with_reducible exact ih1 _ _ _)
   | (with_reducible exact impl_LatticesInside.mono _ _ _ _ _ _)
   | (with_reducible exact laws_eqLatticeS.mono _ _ _)
   | (with_reducible exact laws_heldLatticeS.mono _ _ _)
   | (with_reducible exact laws_markLatticeS.mono _ _ _)
   | (with_reducible exact spec_LatticesInside.mono _ _ _ _ _ _)
   | (with_reducible exact LeO.refl _)
   | (with_reducible exact LeO.none _)
   | (with_reducible refine LeO.ite ?_ ?_)
   | (with_reducible refine LeO.bind ?_ (fun _ => ?_))
   | refine LeO.ite ?_ ?_
   | refine LeO.bind ?_ (fun _ => ?_)
theorem laws_FnExactLatticesInside.mono : ∀ a0 a1 a2 a3 a4 k, LeO (laws_FnExactLatticesInside.f k a0 a1 a2 a3 a4) (laws_FnExactLatticesInside.f (k + 1) a0 a1 a2 a3 a4) := by
 intro a0 a1 a2 a3 a4 k
 obtain ⟨ih0, ih1⟩ := laws_FnExactLatticesInside.mono_l k
 unfold laws_FnExactLatticesInside.f
 repeat' first
   | (with_reducible exact ih0 _ _ _ _ _ _ _ _ _)
   | (with_reducible exact ih1 _ _ _)
   | (with_reducible exact impl_LatticesInside.mono _ _ _ _ _ _)
   | (with_reducible exact laws_eqLatticeS.mono _ _ _)
   | (with_reducible exact laws_heldLatticeS.mono _ _ _)
   | (with_reducible exact laws_markLatticeS.mono _ _ _)
   | (with_reducible exact spec_LatticesInside.mono _ _ _ _ _ _)
   | (with_reducible exact LeO.refl _)
   | (with_reducible exact LeO.none _)
   | (with_reducible refine LeO.ite ?_ ?_)
   | (with_reducible refine LeO.bind ?_ (fun _ => ?_))
   | refine LeO.ite ?_ ?_
   | refine LeO.bind ?_ (fun _ => ?_)
set_option maxHeartbeats 8000000 in
set_option maxRecDepth 100000 in
theorem laws_FnExactLatticesInside.calls (k : Nat) (a0 : Int) (a1_0 : Int) (a1_1 : Int) (a1_2 : Int) (a2 : Int) (r : Bool) (w : World) (hr : Aside0 (r = true)) (h : laws_FnExactLatticesInside.f k a0 a1_0 a1_1 a1_2 a2 = some r) :
  Calls Try.prog 3 #[.int .i64 a0, .agg #[.int .i64 a1_0, .int .i64 a1_1, .int .i64 a1_2], .int .i64 a2] w fun e w' => e = .returned (.bool r) ∧ Below w.heap.size w w' := by
 have hu23 := Try.underlying23
 have HB := Aside0.mk (Below.refl w.heap.size w)
 have H : ((laws_toLattice.f a1_0 a1_1 a1_2).bind fun bt239 => ((spec_LatticesInside.f k a0 bt239.1 bt239.2.1 bt239.2.2 a2).bind fun bt242 => ((laws_toLattice.f a1_0 a1_1 a1_2).bind fun bt246 => ((impl_LatticesInside.f k a0 bt246.1 bt246.2.1 bt246.2.2 a2).bind fun bt249 => ((laws_eqLatticeS.f k bt249.1 bt242.1).bind fun t253 => (if t253 = true then (laws_FnExactLatticesInside.j0 k a0 a2 bt242.1 bt242.2 bt249.1 (bt249.2 != bt242.2) a1_0 a1_1 a1_2) else (laws_FnExactLatticesInside.j0 k a0 a2 bt242.1 bt242.2 bt249.1 true a1_0 a1_1 a1_2))))))) = some r := h
 clear h
 replace H := Option.bind_eq_some_iff.mp H
 obtain ⟨⟨t239, t240, t241⟩, A40, H⟩ := H
 replace H : ((spec_LatticesInside.f k a0 t239 t240 t241 a2).bind fun bt242 => ((laws_toLattice.f a1_0 a1_1 a1_2).bind fun bt246 => ((impl_LatticesInside.f k a0 bt246.1 bt246.2.1 bt246.2.2 a2).bind fun bt249 => ((laws_eqLatticeS.f k bt249.1 bt242.1).bind fun t253 => (if t253 = true then (laws_FnExactLatticesInside.j0 k a0 a2 bt242.1 bt242.2 bt249.1 (bt249.2 != bt242.2) a1_0 a1_1 a1_2) else (laws_FnExactLatticesInside.j0 k a0 a2 bt242.1 bt242.2 bt249.1 true a1_0 a1_1 a1_2)))))) = some r := H
 have A4 := Aside0.mk A40
 clear A40
 replace H := Option.bind_eq_some_iff.mp H
 obtain ⟨⟨t242, t245⟩, A50, H⟩ := H
 replace H : ((laws_toLattice.f a1_0 a1_1 a1_2).bind fun bt246 => ((impl_LatticesInside.f k a0 bt246.1 bt246.2.1 bt246.2.2 a2).bind fun bt249 => ((laws_eqLatticeS.f k bt249.1 t242).bind fun t253 => (if t253 = true then (laws_FnExactLatticesInside.j0 k a0 a2 t242 t245 bt249.1 (bt249.2 != t245) a1_0 a1_1 a1_2) else (laws_FnExactLatticesInside.j0 k a0 a2 t242 t245 bt249.1 true a1_0 a1_1 a1_2))))) = some r := H
 have A5 := Aside0.mk A50
 clear A50
 replace H := Option.bind_eq_some_iff.mp H
 obtain ⟨⟨t246, t247, t248⟩, A60, H⟩ := H
 replace H : ((impl_LatticesInside.f k a0 t246 t247 t248 a2).bind fun bt249 => ((laws_eqLatticeS.f k bt249.1 t242).bind fun t253 => (if t253 = true then (laws_FnExactLatticesInside.j0 k a0 a2 t242 t245 bt249.1 (bt249.2 != t245) a1_0 a1_1 a1_2) else (laws_FnExactLatticesInside.j0 k a0 a2 t242 t245 bt249.1 true a1_0 a1_1 a1_2)))) = some r := H
 have A6 := Aside0.mk A60
 clear A60
 replace H := Option.bind_eq_some_iff.mp H
 obtain ⟨⟨t249, t252⟩, A70, H⟩ := H
 replace H : ((laws_eqLatticeS.f k t249 t242).bind fun t253 => (if t253 = true then (laws_FnExactLatticesInside.j0 k a0 a2 t242 t245 t249 (t252 != t245) a1_0 a1_1 a1_2) else (laws_FnExactLatticesInside.j0 k a0 a2 t242 t245 t249 true a1_0 a1_1 a1_2))) = some r := H
 have A7 := Aside0.mk A70
 clear A70
 have HC8 := Aside0.mk H
 clear H
 go_enter Try.func3, Try.ntmps3
 go_upto_region 3 with (first | ((with_reducible refine gate_dst (N := 4) rfl ?_); refine bx (N := 4) (cs := #[.int .i64 a1_0, .int .i64 a1_1, .int .i64 a1_2]) (t := 23) ?_; intro gb238 hg w9 hbox hb; have BK238 := Aside0.mk (hbox); have GW238 := sg hg; have GE238 := sg hg; replace HB := bs hb; clear hb hbox hg; obtain ⟨hcz10_0, hcz10_1, hcz10_2, hfz10_0, hfz10_1, hfz10_2⟩ := cq3 BK238) | ((with_reducible refine gate_callee (f := 6) rfl ?_); refine g1 (some 18) Try.func6 #[.agg #[.int .i64 a1_0, .int .i64 a1_1, .int .i64 a1_2]] ?_; (with_reducible refine (laws_toLattice.calls a1_0 a1_1 a1_2 t239 t240 t241 _ A4.out).mono ?_); rintro e w11 ⟨rfl, hb⟩; refine ⟨_, rfl, ?_⟩; replace BK238 := bb BK238 hb; replace HB := bs hb; (try clear hb); (try clear hb2); (try clear hk); (try clear hi)) | ((with_reducible refine gate_callee (f := 5) rfl ?_); refine g1 (some 20) Try.func5 #[.int .i64 a0, .agg #[.int .i64 t239, .int .i64 t240, .int .i64 t241], .int .i64 a2] ?_; (with_reducible refine (spec_LatticesInside.calls k a0 t239 t240 t241 a2 t242 t245 _ A5.out).mono ?_); rintro e w12 ⟨v243, rfl, ho0, hb⟩; refine ⟨_, rfl, ?_⟩; have HO244 := Aside0.mk (Kd.R_lower ho0 (below_size (by repeat (first | (with_reducible first | exact HB.out | apply below_alloc | apply pw_below_drewN | apply below_drew1 | refine below_set ?_ GE238.out) | exact HB.out)))); replace BK238 := bb BK238 hb; replace HB := bs hb; (try clear hb); (try clear hb2); (try clear hk); (try clear hi); (try clear ho0); obtain ⟨hcz13_0, hcz13_1, hcz13_2, hfz13_0, hfz13_1, hfz13_2⟩ := cq3 BK238) | ((with_reducible refine gate_callee (f := 6) rfl ?_); refine g1 (some 26) Try.func6 #[.agg #[.int .i64 a1_0, .int .i64 a1_1, .int .i64 a1_2]] ?_; (with_reducible refine (laws_toLattice.calls a1_0 a1_1 a1_2 t246 t247 t248 _ A6.out).mono ?_); rintro e w14 ⟨rfl, hb⟩; refine ⟨_, rfl, ?_⟩; replace HO244 := Aside0.mk (Kd.R_below (by (with_reducible repeat (first | apply Kd.R_alloc | apply Kd.R_drewN | apply Kd.R_drew)); exact HO244.out) hb); replace BK238 := bb BK238 hb; replace HB := bs hb; (try clear hb); (try clear hb2); (try clear hk); (try clear hi)) | ((with_reducible refine gate_callee (f := 7) rfl ?_); refine g1 (some 28) Try.func7 #[.int .i64 a0, .agg #[.int .i64 t246, .int .i64 t247, .int .i64 t248], .int .i64 a2] ?_; (with_reducible refine (impl_LatticesInside.calls k a0 t246 t247 t248 a2 t249 t252 _ A7.out).mono ?_); rintro e w15 ⟨v250, rfl, ho0, hb⟩; refine ⟨_, rfl, ?_⟩; have HO251 := Aside0.mk (Kd.R_lower (Kd.R_new' ho0 (Kd.R_lt (by (with_reducible repeat (first | apply Kd.R_alloc | apply Kd.R_drewN | apply Kd.R_drew)); exact HO244.out))) (below_size (by repeat (first | (with_reducible first | exact HB.out | apply below_alloc | apply pw_below_drewN | apply below_drew1 | refine below_set ?_ GE238.out) | exact HB.out)))); replace HO244 := Aside0.mk (Kd.R_elder' (by (with_reducible repeat (first | apply Kd.R_alloc | apply Kd.R_drewN | apply Kd.R_drew)); exact HO244.out) (Kd.R_base ho0) hb); replace BK238 := bb BK238 hb; replace HB := bs hb; (try clear hb); (try clear hb2); (try clear hk); (try clear hi); (try clear ho0)))
 (try simp only [Act.put, List.setIfInBounds_toArray, List.set_cons_zero, List.set_cons_succ])
 go_cut [39] (fun v39 wc => ∃ (kq : Nat) (x39_7 : Bool), v39 = .bool x39_7 ∧ Aside0 (laws_FnExactLatticesInside.j0 kq a0 a2 t242 t245 t249 x39_7 a1_0 a1_1 a1_2 = some r) ∧ Aside0 (kq ≤ k) ∧ Aside0 (Kd.R k27 27 wc w.heap.size (fun k_ => some k_ ≠ (v250 : Value).ownBlock) v243 t242) ∧ Aside0 (Kd.R k27 27 wc w.heap.size (fun k_ => some k_ ≠ (v243 : Value).ownBlock) v250 t249) ∧ Aside0 (wc.heap[gb238]? = some (.cells #[.int .i64 a1_0, .int .i64 a1_1, .int .i64 a1_2] 23 (0, 0))) ∧ Aside0 (Below w.heap.size w wc))
 case first =>
  have H := HC8.out
  clear HC8
  replace H := Option.bind_eq_some_iff.mp H
  obtain ⟨t253, A160, H⟩ := H
  replace H : (if t253 = true then (laws_FnExactLatticesInside.j0 k a0 a2 t242 t245 t249 (t252 != t245) a1_0 a1_1 a1_2) else (laws_FnExactLatticesInside.j0 k a0 a2 t242 t245 t249 true a1_0 a1_1 a1_2)) = some r := H
  have A16 := Aside0.mk A160
  clear A160
  by_cases c17 : t253 = true
  ·subst c17
   have H1 : (laws_FnExactLatticesInside.j0 k a0 a2 t242 t245 t249 (t252 != t245) a1_0 a1_1 a1_2) = some r := by rw [if_pos rfl] at H; exact H
   clear H
   have H := H1
   clear H1
   have H' := Aside0.mk H
   clear H
   obtain ⟨Ao18, co18, eo18⟩ := Kd.R_slice HO251.out
   subst eo18
   obtain ⟨Ao19, co19, eo19⟩ := Kd.R_slice HO244.out
   subst eo19
   go_wp2_with (first | ((with_reducible refine gate_callee (f := 8) rfl ?_); refine g1 (some 33) Try.func8 #[.slice Ao18 t249.length co18, .slice Ao19 t242.length co19] ?_; (with_reducible refine (laws_eqLatticeS.calls k _ _ t249 _ _ t242 true _ ?side1 ?side2 ?side3 ?side4 A16.out).mono ?_); (case side1 => repeat (first | exact (Kd.R_reads' HO251.out).2.2 | (with_reducible refine Kd.C_alloc ?_ _) | (with_reducible refine Kd.C_drewN ?_ _) | (with_reducible refine Kd.C_drew ?_))); (case side2 => exact (Kd.R_reads' HO251.out).2.1); (case side3 => repeat (first | exact (Kd.R_reads' HO244.out).2.2 | (with_reducible refine Kd.C_alloc ?_ _) | (with_reducible refine Kd.C_drewN ?_ _) | (with_reducible refine Kd.C_drew ?_))); (case side4 => exact (Kd.R_reads' HO244.out).2.1); rintro e w20 ⟨rfl, hb⟩; refine ⟨_, rfl, ?_⟩; replace HO244 := Aside0.mk (Kd.R_below (by (with_reducible repeat (first | apply Kd.R_alloc | apply Kd.R_drewN | apply Kd.R_drew)); exact HO244.out) hb); replace HO251 := Aside0.mk (Kd.R_below (by (with_reducible repeat (first | apply Kd.R_alloc | apply Kd.R_drewN | apply Kd.R_drew)); exact HO251.out) hb); replace BK238 := bb BK238 hb; replace HB := bs hb; (try clear hb); (try clear hb2); (try clear hk); (try clear hi)))
   go_meet
   case rel => exact ⟨_, ((t252 != t245)), (by first | rfl | (simp; done) | (simp [*]; done)), H', ⟨by first | omega | exact Nat.le_refl _⟩, ⟨by (with_reducible repeat (first | apply Kd.R_alloc | apply Kd.R_drewN | apply Kd.R_drew)); exact Kd.R_mono HO244.out (fun _ hk => hk.2)⟩, ⟨by (with_reducible repeat (first | apply Kd.R_alloc | apply Kd.R_drewN | apply Kd.R_drew)); exact Kd.R_mono HO251.out (fun _ hk => hk.2)⟩, ⟨be BK238⟩, ⟨by repeat (first | (with_reducible first | exact HB.out | apply below_alloc | apply pw_below_drewN | apply below_drew1 | refine below_set ?_ GE238.out) | exact HB.out)⟩⟩
  ·replace c17 := Bool.eq_false_iff.mpr c17
   subst c17
   have H1 : (laws_FnExactLatticesInside.j0 k a0 a2 t242 t245 t249 true a1_0 a1_1 a1_2) = some r := by rw [if_neg (show ¬ (false = true) by decide)] at H; exact H
   clear H
   have H := H1
   clear H1
   have H' := Aside0.mk H
   clear H
   obtain ⟨Ao21, co21, eo21⟩ := Kd.R_slice HO251.out
   subst eo21
   obtain ⟨Ao22, co22, eo22⟩ := Kd.R_slice HO244.out
   subst eo22
   go_wp2_with (first | ((with_reducible refine gate_callee (f := 8) rfl ?_); refine g1 (some 33) Try.func8 #[.slice Ao21 t249.length co21, .slice Ao22 t242.length co22] ?_; (with_reducible refine (laws_eqLatticeS.calls k _ _ t249 _ _ t242 false _ ?side1 ?side2 ?side3 ?side4 A16.out).mono ?_); (case side1 => repeat (first | exact (Kd.R_reads' HO251.out).2.2 | (with_reducible refine Kd.C_alloc ?_ _) | (with_reducible refine Kd.C_drewN ?_ _) | (with_reducible refine Kd.C_drew ?_))); (case side2 => exact (Kd.R_reads' HO251.out).2.1); (case side3 => repeat (first | exact (Kd.R_reads' HO244.out).2.2 | (with_reducible refine Kd.C_alloc ?_ _) | (with_reducible refine Kd.C_drewN ?_ _) | (with_reducible refine Kd.C_drew ?_))); (case side4 => exact (Kd.R_reads' HO244.out).2.1); rintro e w23 ⟨rfl, hb⟩; refine ⟨_, rfl, ?_⟩; replace HO244 := Aside0.mk (Kd.R_below (by (with_reducible repeat (first | apply Kd.R_alloc | apply Kd.R_drewN | apply Kd.R_drew)); exact HO244.out) hb); replace HO251 := Aside0.mk (Kd.R_below (by (with_reducible repeat (first | apply Kd.R_alloc | apply Kd.R_drewN | apply Kd.R_drew)); exact HO251.out) hb); replace BK238 := bb BK238 hb; replace HB := bs hb; (try clear hb); (try clear hb2); (try clear hk); (try clear hi)))
   go_meet
   case rel => exact ⟨_, (true), (by first | rfl | (simp; done) | (simp [*]; done)), H', ⟨by first | omega | exact Nat.le_refl _⟩, ⟨by (with_reducible repeat (first | apply Kd.R_alloc | apply Kd.R_drewN | apply Kd.R_drew)); exact Kd.R_mono HO244.out (fun _ hk => hk.2)⟩, ⟨by (with_reducible repeat (first | apply Kd.R_alloc | apply Kd.R_drewN | apply Kd.R_drew)); exact Kd.R_mono HO251.out (fun _ hk => hk.2)⟩, ⟨be BK238⟩, ⟨by repeat (first | (with_reducible first | exact HB.out | apply below_alloc | apply pw_below_drewN | apply below_drew1 | refine below_set ?_ GE238.out) | exact HB.out)⟩⟩
 case rest =>
  clear HC8
  try clear c1
  try clear p2
  try clear c3
  try clear c5
  try clear c6
  try clear c7
  try clear c8
  try clear c17
  try clear hcz10_0 hcz10_1 hcz10_2
  try clear hcz13_0 hcz13_1 hcz13_2
  try clear hfz10_0 hfz10_1 hfz10_2
  try clear hfz13_0 hfz13_1 hfz13_2
  obtain ⟨kq, x39_7, rfl, HA, HJ7, HO_7, HO_9, BK238, HB⟩ := hcut
  cases kq with
  | zero => exact absurd HA.out (by simp [laws_FnExactLatticesInside.j0])
  | succ kj7 =>
   have H := HA.out
   clear HA
   simp only [laws_FnExactLatticesInside.j0] at H
   by_cases c24 : x39_7 = true
   ·subst c24
    have H1 : (some false) = some r := by rw [if_pos rfl] at H; exact H
    clear H
    have H := H1
    clear H1
    exact absurd ((Option.some.inj H).trans hr.out) (by simp)
   ·replace c24 := Bool.eq_false_iff.mpr c24
    subst c24
    have H1 : ((laws_markLatticeS.f kj7 t249 1).bind fun bt254 => ((laws_heldLatticeS.f kj7 bt254.2 1).bind fun t256 => (if t256 < 0 then (some false) else (if t256 = bt254.1 then ((laws_toLattice.f a1_0 a1_1 a1_2).bind fun bt257 => ((impl_LatticesInside.f kj7 a0 bt257.1 bt257.2.1 bt257.2.2 a2).bind fun bt260 => ((laws_eqLatticeS.f kj7 bt260.1 t242).bind fun t264 => (if t264 = true then (laws_FnExactLatticesInside.j1 kj7 bt254.2 bt254.1 (bt260.2 != t245)) else (laws_FnExactLatticesInside.j1 kj7 bt254.2 bt254.1 true))))) else (some false))))) = some r := by rw [if_neg (show ¬ (false = true) by decide)] at H; exact H
    clear H
    have H := H1
    clear H1
    replace H := Option.bind_eq_some_iff.mp H
    obtain ⟨⟨t254, t255⟩, A250, H⟩ := H
    replace H : ((laws_heldLatticeS.f kj7 t255 1).bind fun t256 => (if t256 < 0 then (some false) else (if t256 = t254 then ((laws_toLattice.f a1_0 a1_1 a1_2).bind fun bt257 => ((impl_LatticesInside.f kj7 a0 bt257.1 bt257.2.1 bt257.2.2 a2).bind fun bt260 => ((laws_eqLatticeS.f kj7 bt260.1 t242).bind fun t264 => (if t264 = true then (laws_FnExactLatticesInside.j1 kj7 t255 t254 (bt260.2 != t245)) else (laws_FnExactLatticesInside.j1 kj7 t255 t254 true))))) else (some false)))) = some r := H
    have A25 := Aside0.mk A250
    clear A250
    replace H := Option.bind_eq_some_iff.mp H
    obtain ⟨t256, A260, H⟩ := H
    replace H : (if t256 < 0 then (some false) else (if t256 = t254 then ((laws_toLattice.f a1_0 a1_1 a1_2).bind fun bt257 => ((impl_LatticesInside.f kj7 a0 bt257.1 bt257.2.1 bt257.2.2 a2).bind fun bt260 => ((laws_eqLatticeS.f kj7 bt260.1 t242).bind fun t264 => (if t264 = true then (laws_FnExactLatticesInside.j1 kj7 t255 t254 (bt260.2 != t245)) else (laws_FnExactLatticesInside.j1 kj7 t255 t254 true))))) else (some false))) = some r := H
    have A26 := Aside0.mk A260
    clear A260
    by_cases c27 : t256 < 0
    ·rw [if_pos c27] at H
     have c27b0 : decide (t256 < 0) = true := decide_eq_true c27
     clear c27
     exact absurd ((Option.some.inj H).trans hr.out) (by simp)
    ·rw [if_neg c27] at H
     have c27b0 : decide (t256 < 0) = false := decide_eq_false c27
     clear c27
     by_cases c28 : t256 = t254
     ·rw [if_pos c28] at H
      have c28b0 : (t256 == t254) = true := beq_iff_eq.mpr c28
      have c28b1 : (t256 != t254) = false := bne_eq_false_iff_eq.mpr c28
      clear c28
      replace H := Option.bind_eq_some_iff.mp H
      obtain ⟨⟨t257, t258, t259⟩, A290, H⟩ := H
      replace H : ((impl_LatticesInside.f kj7 a0 t257 t258 t259 a2).bind fun bt260 => ((laws_eqLatticeS.f kj7 bt260.1 t242).bind fun t264 => (if t264 = true then (laws_FnExactLatticesInside.j1 kj7 t255 t254 (bt260.2 != t245)) else (laws_FnExactLatticesInside.j1 kj7 t255 t254 true)))) = some r := H
      have A29 := Aside0.mk A290
      clear A290
      replace H := Option.bind_eq_some_iff.mp H
      obtain ⟨⟨t260, t263⟩, A300, H⟩ := H
      replace H : ((laws_eqLatticeS.f kj7 t260 t242).bind fun t264 => (if t264 = true then (laws_FnExactLatticesInside.j1 kj7 t255 t254 (t263 != t245)) else (laws_FnExactLatticesInside.j1 kj7 t255 t254 true))) = some r := H
      have A30 := Aside0.mk A300
      clear A300
      have HC31 := Aside0.mk H
      clear H
      obtain ⟨Ao32, co32, eo32⟩ := Kd.R_slice HO_9.out
      subst eo32
      go_upto_region 14 with (first | ((with_reducible refine gate_callee (f := 9) rfl ?_); refine g1 (some 42) Try.func9 #[.slice Ao32 t249.length co32, .int .i64 1] ?_; (with_reducible refine (laws_markLatticeS.calls kj7 (fun k_ => some k_ = (.slice Ao32 t249.length co32 : Value).ownBlock) (.slice Ao32 t249.length co32) t249 1 t254 t255 w _ ?side1 ?side2 A25.out).mono ?_); (case side1 => repeat (first | (with_reducible first | exact HB.out | apply below_alloc | apply pw_below_drewN | apply below_drew1 | refine below_set ?_ GE238.out) | exact HB.out)); (case side2 => exact Kd.R_tight rfl HO_9.out); rintro e w33 ⟨rfl, hy0, hb, hkp⟩; refine ⟨_, rfl, ?_⟩; replace HO_7 := Aside0.mk (Kd.R_mono (ok' := fun k_ => some k_ ≠ (.slice Ao32 t249.length co32 : Value).ownBlock) (Kd.R_keptB (HO_7.out) hkp (fun k_ hk_ hs_ => (hk_) hs_)) (fun k_ hk_ => hk_.1)); replace BK238 := Aside0.mk (blk_kept (be BK238) hkp (fun hs_ => (fun e_ => (Kd.R_ne HO_9.out BK238.out (by decide)) e_) hs_)); replace HO_9 := Aside0.mk (Kd.R_reok rfl hy0 (fun k_ e_ => HO_9.out.1 k_ e_)); replace HB := Aside0.mk (hb); (try clear hb); (try clear hkp); (try clear hy0)) | ((with_reducible refine gate_callee (f := 10) rfl ?_); refine goesL_ (some 45) rfl rfl Try.func10 (by kernel_rfl) rfl #[.slice Ao32 t255.length co32, .int .i64 1] rfl (by (try simp only [List.map_toArray, List.map_cons, List.map_nil]); first | done | (rw [show t255.length = t249.length from (Kd.R_reads' HO_9.out).1.symm] <;> rfl) | rfl | (simp only [List.length_drop, List.length_take]; rfl)) ?_; (with_reducible refine (laws_heldLatticeS.calls kj7 _ _ t255 1 t256 _ ?side1 ?side2 A26.out).mono ?_); (case side1 => repeat (first | exact (Kd.R_reads' HO_9.out).2.2 | (with_reducible refine Kd.C_alloc ?_ _) | (with_reducible refine Kd.C_drewN ?_ _) | (with_reducible refine Kd.C_drew ?_))); (case side2 => rw [show t255.length = t249.length from (Kd.R_reads' HO_9.out).1.symm]; exact (Kd.R_reads' HO_9.out).2.1); rintro e w' ⟨rfl, ⟨nd, rfl⟩⟩; refine ⟨_, rfl, ?_⟩; obtain ⟨hcz34_0, hcz34_1, hcz34_2, hfz34_0, hfz34_1, hfz34_2⟩ := cq3 BK238) | ((with_reducible refine gate_callee (f := 6) rfl ?_); refine g1 (some 54) Try.func6 #[.agg #[.int .i64 a1_0, .int .i64 a1_1, .int .i64 a1_2]] ?_; (with_reducible refine (laws_toLattice.calls a1_0 a1_1 a1_2 t257 t258 t259 _ A29.out).mono ?_); rintro e w35 ⟨rfl, hb⟩; refine ⟨_, rfl, ?_⟩; replace HO_7 := Aside0.mk (Kd.R_below (by (with_reducible repeat (first | apply Kd.R_alloc | apply Kd.R_drewN | apply Kd.R_drew)); exact HO_7.out) hb); replace HO_9 := Aside0.mk (Kd.R_below (by (with_reducible repeat (first | apply Kd.R_alloc | apply Kd.R_drewN | apply Kd.R_drew)); exact HO_9.out) hb); replace BK238 := bb BK238 hb; replace HB := bs hb; (try clear hb); (try clear hb2); (try clear hk); (try clear hi)) | ((with_reducible refine gate_callee (f := 7) rfl ?_); refine g1 (some 56) Try.func7 #[.int .i64 a0, .agg #[.int .i64 t257, .int .i64 t258, .int .i64 t259], .int .i64 a2] ?_; (with_reducible refine (impl_LatticesInside.calls kj7 a0 t257 t258 t259 a2 t260 t263 _ A30.out).mono ?_); rintro e w36 ⟨v261, rfl, ho0, hb⟩; refine ⟨_, rfl, ?_⟩; have HO262 := Aside0.mk (Kd.R_lower (Kd.R_new' (Kd.R_new' ho0 (Kd.R_lt (by (with_reducible repeat (first | apply Kd.R_alloc | apply Kd.R_drewN | apply Kd.R_drew)); exact HO_7.out))) (Kd.R_lt (by (with_reducible repeat (first | apply Kd.R_alloc | apply Kd.R_drewN | apply Kd.R_drew)); exact HO_9.out))) (below_size (by repeat (first | (with_reducible first | exact HB.out | apply below_alloc | apply pw_below_drewN | apply below_drew1 | refine below_set ?_ GE238.out) | exact HB.out)))); replace HO_7 := Aside0.mk (Kd.R_elder' (by (with_reducible repeat (first | apply Kd.R_alloc | apply Kd.R_drewN | apply Kd.R_drew)); exact HO_7.out) (Kd.R_base ho0) hb); replace HO_9 := Aside0.mk (Kd.R_elder' (by (with_reducible repeat (first | apply Kd.R_alloc | apply Kd.R_drewN | apply Kd.R_drew)); exact HO_9.out) (Kd.R_base ho0) hb); replace BK238 := bb BK238 hb; replace HB := bs hb; (try clear hb); (try clear hb2); (try clear hk); (try clear hi); (try clear ho0)))
      (try simp only [Act.put, List.setIfInBounds_toArray, List.set_cons_zero, List.set_cons_succ])
      go_cut [67] (fun v67 wc => ∃ (kq : Nat) (x67_30 : Bool), v67 = .bool x67_30 ∧ Aside0 (laws_FnExactLatticesInside.j1 kq t255 t254 x67_30 = some r) ∧ Aside0 (kq ≤ kj7) ∧ Aside0 (Kd.R k27 27 wc w.heap.size (fun _ => True) (.slice Ao32 t249.length co32) t255) ∧ Aside0 (wc.heap[gb238]? = some (.cells #[.int .i64 a1_0, .int .i64 a1_1, .int .i64 a1_2] 23 (0, 0))) ∧ Aside0 (Below w.heap.size w wc))
      case first =>
       have H := HC31.out
       clear HC31
       replace H := Option.bind_eq_some_iff.mp H
       obtain ⟨t264, A370, H⟩ := H
       replace H : (if t264 = true then (laws_FnExactLatticesInside.j1 kj7 t255 t254 (t263 != t245)) else (laws_FnExactLatticesInside.j1 kj7 t255 t254 true)) = some r := H
       have A37 := Aside0.mk A370
       clear A370
       by_cases c38 : t264 = true
       ·subst c38
        have H1 : (laws_FnExactLatticesInside.j1 kj7 t255 t254 (t263 != t245)) = some r := by rw [if_pos rfl] at H; exact H
        clear H
        have H := H1
        clear H1
        have H' := Aside0.mk H
        clear H
        obtain ⟨Ao39, co39, eo39⟩ := Kd.R_slice HO262.out
        subst eo39
        obtain ⟨Ao40, co40, eo40⟩ := Kd.R_slice HO_7.out
        subst eo40
        go_wp2_with (first | ((with_reducible refine gate_callee (f := 8) rfl ?_); refine g1 (some 61) Try.func8 #[.slice Ao39 t260.length co39, .slice Ao40 t242.length co40] ?_; (with_reducible refine (laws_eqLatticeS.calls kj7 _ _ t260 _ _ t242 true _ ?side1 ?side2 ?side3 ?side4 A37.out).mono ?_); (case side1 => repeat (first | exact (Kd.R_reads' HO262.out).2.2 | (with_reducible refine Kd.C_alloc ?_ _) | (with_reducible refine Kd.C_drewN ?_ _) | (with_reducible refine Kd.C_drew ?_))); (case side2 => exact (Kd.R_reads' HO262.out).2.1); (case side3 => repeat (first | exact (Kd.R_reads' HO_7.out).2.2 | (with_reducible refine Kd.C_alloc ?_ _) | (with_reducible refine Kd.C_drewN ?_ _) | (with_reducible refine Kd.C_drew ?_))); (case side4 => exact (Kd.R_reads' HO_7.out).2.1); rintro e w41 ⟨rfl, hb⟩; refine ⟨_, rfl, ?_⟩; replace HO_7 := Aside0.mk (Kd.R_below (by (with_reducible repeat (first | apply Kd.R_alloc | apply Kd.R_drewN | apply Kd.R_drew)); exact HO_7.out) hb); replace HO_9 := Aside0.mk (Kd.R_below (by (with_reducible repeat (first | apply Kd.R_alloc | apply Kd.R_drewN | apply Kd.R_drew)); exact HO_9.out) hb); replace HO262 := Aside0.mk (Kd.R_below (by (with_reducible repeat (first | apply Kd.R_alloc | apply Kd.R_drewN | apply Kd.R_drew)); exact HO262.out) hb); replace BK238 := bb BK238 hb; replace HB := bs hb; (try clear hb); (try clear hb2); (try clear hk); (try clear hi)))
        go_meet
        case rel => exact ⟨_, ((t263 != t245)), (by first | rfl | (simp; done) | (simp [*]; done)), H', ⟨by have := HJ7.out; first | omega | exact Nat.le_refl _⟩, ⟨by (with_reducible repeat (first | apply Kd.R_alloc | apply Kd.R_drewN | apply Kd.R_drew)); exact Kd.R_mono HO_9.out (fun _ hk => trivial)⟩, ⟨be BK238⟩, ⟨by repeat (first | (with_reducible first | exact HB.out | apply below_alloc | apply pw_below_drewN | apply below_drew1 | refine below_set ?_ GE238.out) | exact HB.out)⟩⟩
       ·replace c38 := Bool.eq_false_iff.mpr c38
        subst c38
        have H1 : (laws_FnExactLatticesInside.j1 kj7 t255 t254 true) = some r := by rw [if_neg (show ¬ (false = true) by decide)] at H; exact H
        clear H
        have H := H1
        clear H1
        have H' := Aside0.mk H
        clear H
        obtain ⟨Ao42, co42, eo42⟩ := Kd.R_slice HO262.out
        subst eo42
        obtain ⟨Ao43, co43, eo43⟩ := Kd.R_slice HO_7.out
        subst eo43
        go_wp2_with (first | ((with_reducible refine gate_callee (f := 8) rfl ?_); refine g1 (some 61) Try.func8 #[.slice Ao42 t260.length co42, .slice Ao43 t242.length co43] ?_; (with_reducible refine (laws_eqLatticeS.calls kj7 _ _ t260 _ _ t242 false _ ?side1 ?side2 ?side3 ?side4 A37.out).mono ?_); (case side1 => repeat (first | exact (Kd.R_reads' HO262.out).2.2 | (with_reducible refine Kd.C_alloc ?_ _) | (with_reducible refine Kd.C_drewN ?_ _) | (with_reducible refine Kd.C_drew ?_))); (case side2 => exact (Kd.R_reads' HO262.out).2.1); (case side3 => repeat (first | exact (Kd.R_reads' HO_7.out).2.2 | (with_reducible refine Kd.C_alloc ?_ _) | (with_reducible refine Kd.C_drewN ?_ _) | (with_reducible refine Kd.C_drew ?_))); (case side4 => exact (Kd.R_reads' HO_7.out).2.1); rintro e w44 ⟨rfl, hb⟩; refine ⟨_, rfl, ?_⟩; replace HO_7 := Aside0.mk (Kd.R_below (by (with_reducible repeat (first | apply Kd.R_alloc | apply Kd.R_drewN | apply Kd.R_drew)); exact HO_7.out) hb); replace HO_9 := Aside0.mk (Kd.R_below (by (with_reducible repeat (first | apply Kd.R_alloc | apply Kd.R_drewN | apply Kd.R_drew)); exact HO_9.out) hb); replace HO262 := Aside0.mk (Kd.R_below (by (with_reducible repeat (first | apply Kd.R_alloc | apply Kd.R_drewN | apply Kd.R_drew)); exact HO262.out) hb); replace BK238 := bb BK238 hb; replace HB := bs hb; (try clear hb); (try clear hb2); (try clear hk); (try clear hi)))
        go_meet
        case rel => exact ⟨_, (true), (by first | rfl | (simp; done) | (simp [*]; done)), H', ⟨by have := HJ7.out; first | omega | exact Nat.le_refl _⟩, ⟨by (with_reducible repeat (first | apply Kd.R_alloc | apply Kd.R_drewN | apply Kd.R_drew)); exact Kd.R_mono HO_9.out (fun _ hk => trivial)⟩, ⟨be BK238⟩, ⟨by repeat (first | (with_reducible first | exact HB.out | apply below_alloc | apply pw_below_drewN | apply below_drew1 | refine below_set ?_ GE238.out) | exact HB.out)⟩⟩
      case rest =>
       clear HC31
       try clear c1
       try clear c2
       try clear p2
       try clear c3
       try clear c5
       try clear c6
       try clear c7
       try clear c8
       try clear c9
       try clear c10
       try clear c17
       try clear c24
       try clear c27
       try clear c27b0
       try clear c28
       try clear c28b0
       try clear c28b1
       try clear c38
       try clear hcz10_0 hcz10_1 hcz10_2
       try clear hcz13_0 hcz13_1 hcz13_2
       try clear hcz34_0 hcz34_1 hcz34_2
       try clear hfz10_0 hfz10_1 hfz10_2
       try clear hfz13_0 hfz13_1 hfz13_2
       try clear hfz34_0 hfz34_1 hfz34_2
       try clear p2
       obtain ⟨kq, x67_30, rfl, HA, HJ30, HO_9, BK238, HB⟩ := hcut
       have hl9_30 := (Kd.R_reads' HO_9.out).1
       rw [hl9_30] at HO_9
       (try simp only [hl9_30])
       (try simp only [hl9_30] at BK238)
       cases kq with
       | zero => exact absurd HA.out (by simp [laws_FnExactLatticesInside.j1])
       | succ kj30 =>
        have H := HA.out
        clear HA
        simp only [laws_FnExactLatticesInside.j1] at H
        by_cases c45 : x67_30 = true
        ·subst c45
         have H1 : (some false) = some r := by rw [if_pos rfl] at H; exact H
         clear H
         have H := H1
         clear H1
         exact absurd ((Option.some.inj H).trans hr.out) (by simp)
        ·replace c45 := Bool.eq_false_iff.mpr c45
         subst c45
         have H1 : ((laws_heldLatticeS.f kj30 t255 1).bind fun t265 => (if t265 < 0 then (some false) else (if t265 = t254 then (some true) else (some false)))) = some r := by rw [if_neg (show ¬ (false = true) by decide)] at H; exact H
         clear H
         have H := H1
         clear H1
         replace H := Option.bind_eq_some_iff.mp H
         obtain ⟨t265, A460, H⟩ := H
         replace H : (if t265 < 0 then (some false) else (if t265 = t254 then (some true) else (some false))) = some r := H
         have A46 := Aside0.mk A460
         clear A460
         by_cases c47 : t265 < 0
         ·rw [if_pos c47] at H
          have c47b0 : decide (t265 < 0) = true := decide_eq_true c47
          clear c47
          exact absurd ((Option.some.inj H).trans hr.out) (by simp)
         ·rw [if_neg c47] at H
          have c47b0 : decide (t265 < 0) = false := decide_eq_false c47
          clear c47
          by_cases c48 : t265 = t254
          ·rw [if_pos c48] at H
           have c48b0 : (t265 == t254) = true := beq_iff_eq.mpr c48
           have c48b1 : (t265 != t254) = false := bne_eq_false_iff_eq.mpr c48
           clear c48
           obtain rfl := Option.some.inj H
           go_wp2_with (first | ((with_reducible refine gate_callee (f := 10) rfl ?_); refine g1 (some 70) Try.func10 #[.slice Ao32 t255.length co32, .int .i64 1] ?_; (with_reducible refine (laws_heldLatticeS.calls kj30 _ _ t255 1 t265 _ ?side1 ?side2 A46.out).mono ?_); (case side1 => repeat (first | exact (Kd.R_reads' HO_9.out).2.2 | (with_reducible refine Kd.C_alloc ?_ _) | (with_reducible refine Kd.C_drewN ?_ _) | (with_reducible refine Kd.C_drew ?_))); (case side2 => exact (Kd.R_reads' HO_9.out).2.1); rintro e w' ⟨rfl, ⟨nd, rfl⟩⟩; refine ⟨_, rfl, ?_⟩))
           go_ret
           exact ⟨by first | rfl | (simp [errW_none, errW_some] <;> rfl) | (simp [*, errW_none, errW_some] <;> rfl), by repeat (first | (with_reducible first | exact HB.out | apply below_alloc | apply pw_below_drewN | apply below_drew1 | refine below_set ?_ GE238.out) | exact HB.out)⟩
          ·rw [if_neg c48] at H
           have c48b0 : (t265 == t254) = false := beq_eq_false_iff_ne.mpr c48
           have c48b1 : (t265 != t254) = true := bne_iff_ne.mpr c48
           exact absurd ((Option.some.inj H).trans hr.out) (by simp)
     ·rw [if_neg c28] at H
      have c28b0 : (t256 == t254) = false := beq_eq_false_iff_ne.mpr c28
      have c28b1 : (t256 != t254) = true := bne_iff_ne.mpr c28
      exact absurd ((Option.some.inj H).trans hr.out) (by simp)

end Go.Proofs.Ytkfodnlogflcpaa.PFnExactLatticesInside

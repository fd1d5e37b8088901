-- Printed by the kit's print and repaired by a program of this session.
import Derived.Test.YtpmepopagapeiaaPFnMediansx0
import Derived.Test.YtpmepopagapeiaaPFnMediansx1
import Derived.Test.YtpmepopagapeiaaPFnMediansx6
import Derived.Test.YtpmepopagapeiaaPFnMediansx7
namespace Go.Proofs.Ytpmepopagapeiaa.PFnMedians
open Go.RowKit Go.Proofs.YtpmepopagapeiaaW.PrintWords Go.Proofs.YtpmepopagapeiaaW.PrintLast Go.Proofs.YtpmepopagapeiaaW.PrintMore
attribute [local go_sem] max2_int min2_int max_two min_two max_three min_three max_four min_four
set_option linter.unusedVariables false
set_option linter.unusedSimpArgs false

attribute [local go_sem high] eqA27
/-! ### impl_someNeighbours: function 141 -/
def impl_someNeighbours.l0 : Nat → Int → List (S27) → Int → Int → Int → Int → Option ((List (S27)) × Bool)
 | 0, _, _, _, _, _, _ => none
 | k + 1, x0, x8, x9, x255000, x255001, x255002 => if x9 ≤ x0 then ((impl_neighbour.f k x0 x255000 x255001 x255002 x9).bind fun bt258 => (if bt258.2.2.2 = true then (if x8.length < 5864062014805 then (impl_someNeighbours.l0 k x0 (x8 ++ [(⟨bt258.1, bt258.2.1, bt258.2.2.1⟩ : S27)]) (wrap64 (x9 + 1)) x255000 x255001 x255002) else (none)) else (some (([] : List (S27)), false)))) else (some (x8, true))
def impl_someNeighbours.f (k : Nat) (a0 : Int) (a1_0 : Int) (a1_1 : Int) (a1_2 : Int) (a2 : Int) : Option ((List (S27)) × Bool) := impl_someNeighbours.l0 k a0 (([] : List (S27))) a2 a1_0 a1_1 a1_2
set_option maxHeartbeats 8000000 in
set_option maxRecDepth 100000 in
theorem impl_someNeighbours.calls (k : Nat) (a0 : Int) (a1_0 : Int) (a1_1 : Int) (a1_2 : Int) (a2 : Int) (r1 : List (S27)) (r2 : Bool) (w : World) (h : impl_someNeighbours.f k a0 a1_0 a1_1 a1_2 a2 = some (r1, r2)) :
  Calls Try.prog 141 #[.int .i64 a0, .agg #[.int .i64 a1_0, .int .i64 a1_1, .int .i64 a1_2], .int .i64 a2] w fun e w' => ∃ v0_ : Value, e = .returned (.tuple #[v0_, .bool r2]) ∧ Kd.R k27 27 w' w.heap.size (fun _ => True) v0_ r1 ∧ Below w.heap.size w w' := by
 have hu27 := Try.underlying27
 have HB := Aside0.mk (Below.refl w.heap.size w)
 unfold impl_someNeighbours.f at h
 have H := h
 clear h
 obtain ⟨y255, hy255⟩ : ∃ y_ : List (S27), y_ = (([] : List (S27))) := ⟨_, rfl⟩
 replace H : (impl_someNeighbours.l0 k a0 y255 a2 a1_0 a1_1 a1_2) = some (r1, r2) := by first | exact hy255 ▸ H | exact H
 have Ny255 := Aside0.mk hy255
 clear hy255
 have H' := Aside0.mk H
 clear H
 go_enter Try.func141, Try.ntmps141
 go_wp2_with (first | ((with_reducible refine zg 4 rfl ?_); refine z3 4 27 a1_0 a1_1 a1_2 ?_; intro gb254 hg w4 BK254 hb; have GW254 := sg hg; replace HB := bs hb; clear hb hg) | ((with_reducible refine zg 12 rfl ?_); refine Kd.R_lit k27 _ 27 ?hg (N := 12) ?hd (xs := ([] : List (S27))) (inner := []) (ok := fun _ => True) (okp := fun _ => True) ?hr ?hp (fun _ hk => hk) trivial (Below.refl _ _) (Nat.le_refl _) (by simp) ?_; (case hd => rfl); (case hg => rfl); (case hr => first | (go_simp; done) | (go_simp; rfl)); (case hp => exact (Reps.none _ _)); intro v256 w5 ho6 hb hg_ hnew_; clear hg_ hnew_; (first | rw [← Ny255.out] at ho6 | (simp only [Int.reduceToNat] at ho6; rw [← Ny255.out] at ho6)); have HO257 := Aside0.mk (Kd.R_lower (Kd.R_newB ho6 (g := gb254) (o := .cells #[.int .i64 a1_0, .int .i64 a1_1, .int .i64 a1_2] 27 (0, 0)) (be BK254)) (below_size (bl))); replace BK254 := bb BK254 hb; replace HB := bs hb; clear hb ho6))
 go_loopg [8, 9] k (fun kq v8 v9 w' => ∃ (x8_1 : List (S27)) (x9_1 : Int), v9 = .int .i64 x9_1 ∧ Aside0 (impl_someNeighbours.l0 kq a0 x8_1 x9_1 a1_0 a1_1 a1_2 = some (r1, r2)) ∧ Aside0 (kq ≤ k) ∧ Aside0 (Kd.R k27 27 w' w.heap.size (fun k_ => k_ ≠ gb254) v8 x8_1) ∧ Aside0 (w'.heap[gb254]? = some (.cells #[.int .i64 a1_0, .int .i64 a1_1, .int .i64 a1_2] 27 (0, 0))) ∧ Aside0 (Below w.heap.size w w'))
 case atStart => exact ⟨(y255), (a2), (by first | rfl | (simp; done) | (simp [*]; done)), H', ⟨Nat.le_refl _⟩, ⟨by (with_reducible repeat (first | apply Kd.R_alloc | apply Kd.R_drewN | apply Kd.R_drew)); exact Kd.R_mono HO257.out (fun _ hk => hk.2)⟩, ⟨be BK254⟩, ⟨bl⟩⟩
 case round =>
  clear H'
  obtain ⟨x8_1, x9_1, rfl, HA, HK1, HO_8, BK254, HB⟩ := hrel
  cases gk with
  | zero => exact absurd HA.out (by simp [impl_someNeighbours.l0])
  | succ k1 =>
   have H := HA.out
   clear HA
   simp only [impl_someNeighbours.l0] at H
   replace H := ii H
   rcases H with ⟨c7, H⟩ | ⟨c7, H⟩
   ·have c7b0 := decide_eq_true c7
    clear c7
    replace H := zi H
    obtain ⟨⟨t258, t259, t260, t261⟩, A8, H⟩ := H
    try dsimp only at H
    by_cases c9 : t261 = true
    ·subst c9
     rw [if_pos rfl] at H
     replace H := ii H
     rcases H with ⟨c10, H⟩ | ⟨c10, H⟩
     ·have LMc10 := Aside0.mk c10
      clear c10
      obtain ⟨y263, hy263⟩ : ∃ y_ : List (S27), y_ = (x8_1 ++ [(⟨t258, t259, t260⟩ : S27)]) := ⟨_, rfl⟩
      replace H : (impl_someNeighbours.l0 k1 a0 y263 (wrap64 (x9_1 + 1)) a1_0 a1_1 a1_2) = some (r1, r2) := by first | exact hy263 ▸ H | exact H
      have Ny263 := Aside0.mk hy263
      clear hy263
      have H' := Aside0.mk H
      clear H
      obtain ⟨hcz11_0, hcz11_1, hcz11_2, hfz11_0, hfz11_1, hfz11_2⟩ := cq3 BK254
      go_wp2_with (first | ((with_reducible refine zf 153 rfl ?_); refine g1 (some 23) Try.func153 #[.int .i64 a0, .agg #[.int .i64 a1_0, .int .i64 a1_1, .int .i64 a1_2], .int .i64 x9_1] ?_; (with_reducible refine (impl_neighbour.calls k1 a0 a1_0 a1_1 a1_2 x9_1 t258 t259 t260 true _ A8.out).mono ?_); rintro e w12 ⟨rfl, hb⟩; refine ⟨_, rfl, ?_⟩; replace HO_8 := Aside0.mk (Kd.R_below (by (with_reducible repeat (first | apply Kd.R_alloc | apply Kd.R_drewN | apply Kd.R_drew)); exact HO_8.out) hb); replace BK254 := bb BK254 hb; replace HB := bs hb; (try clear hb)) | ((with_reducible refine zg 10 rfl ?_); refine z3 10 27 0 0 0 ?_; intro gb262 hg w13 BK262 hb; have GW262 := sg hg; have NB254_262 := nl hg BK254; replace HO_8 := Aside0.mk (Kd.R_below (Kd.R_elderB (by (with_reducible repeat (first | apply Kd.R_alloc | apply Kd.R_drewN | apply Kd.R_drew)); exact HO_8.out) gb262 (Nat.le_of_eq hg.symm)) hb); replace BK254 := bb BK254 hb; replace HB := bs hb; clear hb hg; obtain ⟨hnb14, hnc14⟩ := zm NB254_262; obtain ⟨hcz15_0, hcz15_1, hcz15_2, hfz15_0, hfz15_1, hfz15_2⟩ := cq3 BK262) | ((with_reducible refine gate_builtin (b := .append) (xs := #[.tmp 28, .tmp 30]) rfl ?_); at_builtin; refine Kd.R_append k27 (w0 := w) w.heap.size rfl (.tmp 28) (.tmp 30) 24 27 (.agg #[(.int .i64 0), (.int .i64 0), (.int .i64 0)]) 24 rfl Try.underlying24 info27 rfl (by decide) (by omega) u8 x8_1 (⟨t258, t259, t260⟩ : S27) [.int .i64 t258, .int .i64 t259, .int .i64 t260] (fun k_ => k_ ≠ gb254 ∧ k_ ≠ gb262) (fun _ => False) rfl (by first | (go_simp; done) | (go_simp; rfl)) ?aP (fun _ hk => hk.elim) ?aF ?aO ?aB ?aS ?aL ?_; (case aP => exact k27_mkM _ _ _ (⟨t258, t259, t260⟩ : S27)); (case aB => exact (bl)); (case aF => exact (fun k_ hk => ⟨Kd.freshB (g := gb254) (o := .cells #[.int .i64 a1_0, .int .i64 a1_1, .int .i64 a1_2] 27 (0, 0)) (bp) k_ hk, Kd.freshB (g := gb262) (o := .cells #[.int .i64 t258, .int .i64 t259, .int .i64 t260] 27 (0, 0)) (bp) k_ hk⟩)); (case aO => exact (by (with_reducible repeat (first | apply Kd.R_alloc | apply Kd.R_drewN | apply Kd.R_drew)); exact Kd.R_mono (Kd.R_far (p := ⟨gb262, 2, none⟩) (Kd.R_far (p := ⟨gb262, 1, none⟩) (Kd.R_far (p := ⟨gb262, 0, none⟩) (Kd.R_mono HO_8.out (fun k_ hk => (⟨hk, hk.2⟩ : _ ∧ k_ ≠ gb262))) (fun _ hk => hk.2) (.int .i64 t258)) (fun _ hk => hk.2) (.int .i64 t259)) (fun _ hk => hk.2) (.int .i64 t260)) (fun _ hk => ⟨hk.1.1, hk.1.2⟩))); (case aS => exact (below_size (bl))); (case aL => have := LMc10.out; omega); intro v264 w16 ho hb hg hat; rw [← Ny263.out] at ho; have n0_ := Aside0.mk (blk_grown (g := gb254) (o := .cells #[.int .i64 a1_0, .int .i64 a1_1, .int .i64 a1_2] 27 (0, 0)) (bp) hg (Kd.R_away HO_8.out (fun _ hk => hk.1))); have n1_ := Aside0.mk (blk_grown (g := gb262) (o := .cells #[.int .i64 t258, .int .i64 t259, .int .i64 t260] 27 (0, 0)) (bp) hg (Kd.R_away HO_8.out (fun _ hk => hk.2))); have n2_ := Aside0.mk (hb); have n3_ := Aside0.mk (ho); clear BK254; clear BK262; clear HB; clear HO_8; have BK254 := n0_; have BK262 := n1_; have HB := n2_; have HO265 := n3_; clear n0_ n1_ n2_ n3_; clear ho hb hg hat))
      go_roundg k1
      case measure => have := HK1.out; omega
      case rel => exact ⟨(y263), (wrap64 (x9_1 + 1)), (by first | rfl | (simp; done) | (simp [*]; done)), H', ⟨by have := HK1.out; omega⟩, ⟨by (with_reducible repeat (first | apply Kd.R_alloc | apply Kd.R_drewN | apply Kd.R_drew)); exact Kd.R_mono HO265.out (fun _ hk => hk.1)⟩, ⟨be BK254⟩, ⟨bl⟩⟩
     ·exact absurd H (by simp)
    ·replace c9 := Bool.eq_false_iff.mpr c9
     subst c9
     have H1 : (some (([] : List (S27)), false)) = some (r1, r2) := by rw [if_neg (show ¬ (false = true) by decide)] at H; exact H
     clear H
     have H := H1
     clear H1
     simp only [Option.some.injEq, Prod.mk.injEq] at H
     obtain ⟨rfl, rfl⟩ := H
     obtain ⟨hcz17_0, hcz17_1, hcz17_2, hfz17_0, hfz17_1, hfz17_2⟩ := cq3 BK254
     go_wp2_with (first | ((with_reducible refine zf 153 rfl ?_); refine g1 (some 23) Try.func153 #[.int .i64 a0, .agg #[.int .i64 a1_0, .int .i64 a1_1, .int .i64 a1_2], .int .i64 x9_1] ?_; (with_reducible refine (impl_neighbour.calls k1 a0 a1_0 a1_1 a1_2 x9_1 t258 t259 t260 false _ A8.out).mono ?_); rintro e w18 ⟨rfl, hb⟩; refine ⟨_, rfl, ?_⟩; replace HO_8 := Aside0.mk (Kd.R_below (by (with_reducible repeat (first | apply Kd.R_alloc | apply Kd.R_drewN | apply Kd.R_drew)); exact HO_8.out) hb); replace BK254 := bb BK254 hb; replace HB := bs hb; (try clear hb)) | ((with_reducible refine zg 10 rfl ?_); refine z3 10 27 0 0 0 ?_; intro gb262 hg w19 BK262 hb; have GW262 := sg hg; have NB254_262 := nl hg BK254; replace HO_8 := Aside0.mk (Kd.R_below (Kd.R_elderB (by (with_reducible repeat (first | apply Kd.R_alloc | apply Kd.R_drewN | apply Kd.R_drew)); exact HO_8.out) gb262 (Nat.le_of_eq hg.symm)) hb); replace BK254 := bb BK254 hb; replace HB := bs hb; clear hb hg; obtain ⟨hnb20, hnc20⟩ := zm NB254_262; obtain ⟨hcz21_0, hcz21_1, hcz21_2, hfz21_0, hfz21_1, hfz21_2⟩ := cq3 BK262))
     go_ret2
     exact ⟨_, er, by first | exact Kd.R_nil _ _ _ _ _ | exact Kd.N_nil _ _ _ _ _ | exact Kd.V_nil _ _ _ _ _ | exact Kd.Q_nil _ _ _ _ _ | exact Kd.S_nil _ _ _ _ _, bl⟩
   ·have c7b0 := decide_eq_false c7
    clear c7
    simp only [Option.some.injEq, Prod.mk.injEq] at H
    obtain ⟨rfl, rfl⟩ := H
    go_wp2
    go_ret2
    exact ⟨_, er, by (with_reducible repeat (first | apply Kd.R_alloc | apply Kd.R_drewN | apply Kd.R_drew)); exact Kd.R_mono HO_8.out (fun _ hk => trivial), bl⟩

/-! ### impl_spheres: function 90 -/
mutual
def impl_spheres.l0 : Nat → Int → List (List (S27)) → Int → Int → Int → Int → Int → Option ((List (List (S27))) × Bool)
 | 0, _, _, _, _, _, _, _ => none
 | k + 1, x0, x8, x20, x21, x267000, x267001, x267002 => if x21 < x20 then (if 0 ≤ x21 then (if x21 < (x8.length : Int) then (impl_spheres.l1 k x0 x8 x21 (([] : List (S27))) x20 x21 (rd_L2 x8 x21) ((rd_L2 x8 x21).length : Int) 0 x267000 x267001 x267002) else (none)) else (none)) else (some (x8, true))
def impl_spheres.l1 : Nat → Int → List (List (S27)) → Int → List (S27) → Int → Int → List (S27) → Int → Int → Int → Int → Int → Option ((List (List (S27))) × Bool)
 | 0, _, _, _, _, _, _, _, _, _, _, _, _ => none
 | k + 1, x0, x8, x9, x10, x20, x21, x28, x29, x30, x267000, x267001, x267002 => if x30 < x29 then (if 0 ≤ x30 then (if x30 < (x28.length : Int) then ((impl_someNeighbours.f k x0 ((rd_T27 x28 x30).f0) ((rd_T27 x28 x30).f1) ((rd_T27 x28 x30).f2) 0).bind fun bt282 => (if bt282.2 = true then (impl_spheres.l2 k x0 x8 x9 x10 x20 x21 x28 x29 x30 bt282.1 (bt282.1.length : Int) 0 x267000 x267001 x267002) else (some (([] : List (List (S27))), false)))) else (none)) else (none)) else (if x8.length < 5864062014805 then (impl_spheres.l0 k x0 (x8 ++ [x10]) x20 (wrap64 (x21 + 1)) x267000 x267001 x267002) else (none))
def impl_spheres.l2 : Nat → Int → List (List (S27)) → Int → List (S27) → Int → Int → List (S27) → Int → Int → List (S27) → Int → Int → Int → Int → Int → Option ((List (List (S27))) × Bool)
 | 0, _, _, _, _, _, _, _, _, _, _, _, _, _, _, _ => none
 | k + 1, x0, x8, x9, x10, x20, x21, x28, x29, x30, x42, x43, x44, x267000, x267001, x267002 => if x44 < x43 then (if 0 ≤ x44 then (if x44 < (x42.length : Int) then ((impl_distance.f k x0 x267000 x267001 x267002 ((rd_T27 x42 x44).f0) ((rd_T27 x42 x44).f1) ((rd_T27 x42 x44).f2)).bind fun t288 => (if t288 > x9 then (if x10.length < 5864062014805 then (impl_spheres.l2 k x0 x8 x9 (x10 ++ [(⟨(rd_T27 x42 x44).f0, (rd_T27 x42 x44).f1, (rd_T27 x42 x44).f2⟩ : S27)]) x20 x21 x28 x29 x30 x42 x43 (wrap64 (x44 + 1)) x267000 x267001 x267002) else (none)) else (impl_spheres.l2 k x0 x8 x9 x10 x20 x21 x28 x29 x30 x42 x43 (wrap64 (x44 + 1)) x267000 x267001 x267002))) else (none)) else (none)) else (impl_spheres.l1 k x0 x8 x9 x10 x20 x21 x28 x29 (wrap64 (x30 + 1)) x267000 x267001 x267002)
end
def impl_spheres.f (k : Nat) (a0 : Int) (a1_0 : Int) (a1_1 : Int) (a1_2 : Int) (a2 : Int) : Option ((List (List (S27))) × Bool) := impl_spheres.l0 k a0 (([(([(⟨a1_0, a1_1, a1_2⟩ : S27)] : List (S27)))] : List (List (S27)))) a2 0 a1_0 a1_1 a1_2
set_option maxHeartbeats 8000000 in
set_option maxRecDepth 100000 in
theorem impl_spheres.calls (k : Nat) (a0 : Int) (a1_0 : Int) (a1_1 : Int) (a1_2 : Int) (a2 : Int) (r1 : List (List (S27))) (r2 : Bool) (w : World) (h : impl_spheres.f k a0 a1_0 a1_1 a1_2 a2 = some (r1, r2)) :
  Calls Try.prog 90 #[.int .i64 a0, .agg #[.int .i64 a1_0, .int .i64 a1_1, .int .i64 a1_2], .int .i64 a2] w fun e w' => ∃ v0_ : Value, e = .returned (.tuple #[v0_, .bool r2]) ∧ Kd.N (Kd.slice 27 k27) 24 w' w.heap.size (fun k_ => (w.heap.size ≤ k_)) v0_ r1 ∧ Below w.heap.size w w' := by
 have hu27 := Try.underlying27
 have HB := Aside0.mk (Below.refl w.heap.size w)
 unfold impl_spheres.f at h
 have H := h
 clear h
 obtain ⟨y267, hy267⟩ : ∃ y_ : List (S27), y_ = (([(⟨a1_0, a1_1, a1_2⟩ : S27)] : List (S27))) := ⟨_, rfl⟩
 replace H : (impl_spheres.l0 k a0 (([y267] : List (List (S27)))) a2 0 a1_0 a1_1 a1_2) = some (r1, r2) := by first | exact hy267 ▸ H | exact H
 have Ny267 := Aside0.mk hy267
 clear hy267
 obtain ⟨y270, hy270⟩ : ∃ y_ : List (List (S27)), y_ = (([y267] : List (List (S27)))) := ⟨_, rfl⟩
 replace H : (impl_spheres.l0 k a0 y270 a2 0 a1_0 a1_1 a1_2) = some (r1, r2) := by first | exact hy270 ▸ H | exact H
 have Ny270 := Aside0.mk hy270
 clear hy270
 have H' := Aside0.mk H
 clear H
 go_enter Try.func90, Try.ntmps90
 go_wp2_with (first | ((with_reducible refine zg 4 rfl ?_); refine z3 4 27 a1_0 a1_1 a1_2 ?_; intro gb266 hg w4 BK266 hb; have GW266 := sg hg; replace HB := bs hb; clear hb hg; obtain ⟨hcz5_0, hcz5_1, hcz5_2, hfz5_0, hfz5_1, hfz5_2⟩ := cq3 BK266) | ((with_reducible refine zg 18 rfl ?_); refine Kd.R_lit k27 _ 27 ?hg (N := 18) ?hd (xs := ([(⟨a1_0, a1_1, a1_2⟩ : S27)] : List (S27))) (inner := [.int .i64 a1_0, .int .i64 a1_1, .int .i64 a1_2]) (ok := fun _ => True) (okp := fun _ => True) ?hr ?hp (fun _ hk => hk) trivial (Below.refl _ _) (Nat.le_refl _) (by simp) ?_; (case hd => rfl); (case hg => rfl); (case hr => first | (go_simp; done) | (go_simp; rfl)); (case hp => exact (Reps.c3 (show Kd.M k27 _ _ _ (⟨a1_0, a1_1, a1_2⟩ : S27) [.int .i64 a1_0, .int .i64 a1_1, .int .i64 a1_2] from (k27_mkM _ _ _ (⟨a1_0, a1_1, a1_2⟩ : S27) )) (Reps.none _ _))); intro v268 w6 ho7 hb hg_ hnew_; clear hg_ hnew_; (first | rw [← Ny267.out] at ho7 | (simp only [Int.reduceToNat] at ho7; rw [← Ny267.out] at ho7)); have HO269 := Aside0.mk (Kd.R_lower (Kd.R_newB (Kd.R_newM (M := fun k_ => (w.heap.size ≤ k_)) ho7 (below_size (bl)) (fun k_ h_ => h_)) (g := gb266) (o := .cells #[.int .i64 a1_0, .int .i64 a1_1, .int .i64 a1_2] 27 (0, 0)) (be BK266)) (below_size (bl))); replace BK266 := bb BK266 hb; replace HB := bs hb; clear hb ho7; obtain ⟨Ao8, co8, eo8⟩ := Kd.R_slice HO269.out; subst eo8) | ((with_reducible refine zg 19 rfl ?_); refine Kd.N_lit (Kd.slice 27 k27) _ 24 ?hg (N' := 19) ?hd (xs := ([y267] : List (List (S27)))) (inner := [.slice Ao8 y267.length co8]) (ok := (fun k_ => (w.heap.size ≤ k_) ∧ k_ ≠ gb266)) (okp := (fun k_ => (w.heap.size ≤ k_) ∧ k_ ≠ gb266)) ?hr ?hp (fun _ hk => hk) ((show ∀ k_, w6.heap.size ≤ k_ → (fun k_ => (w.heap.size ≤ k_) ∧ k_ ≠ gb266) k_ from fun k_ hk => ⟨(Nat.le_trans (below_size (bl)) hk), Kd.freshB (g := gb266) (o := .cells #[.int .i64 a1_0, .int .i64 a1_1, .int .i64 a1_2] 27 (0, 0)) (be BK266) k_ hk⟩) _ (Nat.le_refl _)) (Below.refl _ _) (Nat.le_refl _) (by simp) ?_; (case hd => rfl); (case hg => rfl); (case hr => first | (go_simp; done) | (go_simp; rfl)); (case hp => exact (Reps.one (show Kd.FK (Kd.slice 27 k27) _ _ y267 [.slice Ao8 y267.length co8] from (Kd.FK_slice_mk (Kd.R_reads' (Kd.R_mono (ok' := (fun k_ => (w.heap.size ≤ k_) ∧ k_ ≠ gb266)) (HO269.out) (fun k_ hk => ⟨hk.1.1, hk.2⟩))).2.1 (Kd.R_F (Kd.R_mono (ok' := (fun k_ => (w.heap.size ≤ k_) ∧ k_ ≠ gb266)) (HO269.out) (fun k_ hk => ⟨hk.1.1, hk.2⟩))))) (Reps.none _ _))); intro v271 w9 ho10 hb hg_ hnew_; clear hg_ hnew_; (first | rw [← Ny270.out] at ho10 | (simp only [Int.reduceToNat] at ho10; rw [← Ny270.out] at ho10)); have n0_ := Aside0.mk (Kd.N_lower ho10 (below_size (bl))); have n1_ := bb BK266 hb; have n2_ := bs hb; clear BK266; clear HB; clear HO269; have HO272 := n0_; have BK266 := n1_; have HB := n2_; clear n0_ n1_ n2_; clear hb ho10))
 go_loopg [8, 21] k (fun kq v8 v21 w' => ∃ (x8_1 : List (List (S27))) (x21_1 : Int), v21 = .int .i64 x21_1 ∧ Aside0 (impl_spheres.l0 kq a0 x8_1 a2 x21_1 a1_0 a1_1 a1_2 = some (r1, r2)) ∧ Aside0 (kq ≤ k) ∧ Aside0 (Kd.N (Kd.slice 27 k27) 24 w' w.heap.size (fun k_ => (w.heap.size ≤ k_) ∧ k_ ≠ gb266) v8 x8_1) ∧ Aside0 (w'.heap[gb266]? = some (.cells #[.int .i64 a1_0, .int .i64 a1_1, .int .i64 a1_2] 27 (0, 0))) ∧ Aside0 (Below w.heap.size w w'))
 case atStart => exact ⟨(y270), (0), (by first | rfl | (simp; done) | (simp [*]; done)), H', ⟨Nat.le_refl _⟩, ⟨by (with_reducible repeat (first | apply Kd.N_alloc | apply Kd.N_drewN | apply Kd.N_drew)); exact HO272.out⟩, ⟨be BK266⟩, ⟨bl⟩⟩
 case round =>
  clear H'
  obtain ⟨x8_1, x21_1, rfl, HA, HK1, HO_8, BK266, HB⟩ := hrel
  cases gk with
  | zero => exact absurd HA.out (by simp [impl_spheres.l0])
  | succ k1 =>
   have H := HA.out
   clear HA
   simp only [impl_spheres.l0] at H
   replace H := ii H
   rcases H with ⟨c11, H⟩ | ⟨c11, H⟩
   ·have c11b0 := decide_eq_true c11
    clear c11
    obtain ⟨y273, hy273⟩ : ∃ y_ : List (S27), y_ = (([] : List (S27))) := ⟨_, rfl⟩
    replace H : (if 0 ≤ x21_1 then (if x21_1 < (x8_1.length : Int) then (impl_spheres.l1 k1 a0 x8_1 x21_1 y273 a2 x21_1 (rd_L2 x8_1 x21_1) ((rd_L2 x8_1 x21_1).length : Int) 0 a1_0 a1_1 a1_2) else (none)) else (none)) = some (r1, r2) := by first | exact hy273 ▸ H | exact H
    have Ny273 := Aside0.mk hy273
    clear hy273
    replace H := ii H
    rcases H with ⟨c12, H⟩ | ⟨c12, H⟩
    ·have c12b0 := decide_eq_true c12
     clear c12
     replace H := ii H
     rcases H with ⟨c13, H⟩ | ⟨c13, H⟩
     ·have c13b0 := decide_eq_true c13
      clear c13
      have H' := Aside0.mk H
      clear H
      go_wp2_with (first | ((with_reducible refine zg 24 rfl ?_); refine Kd.R_lit k27 _ 27 ?hg (N := 24) ?hd (xs := ([] : List (S27))) (inner := []) (ok := fun _ => True) (okp := fun _ => True) ?hr ?hp (fun _ hk => hk) trivial (Below.refl _ _) (Nat.le_refl _) (by simp) ?_; (case hd => rfl); (case hg => rfl); (case hr => first | (go_simp; done) | (go_simp; rfl)); (case hp => exact (Reps.none _ _)); intro v274 w14 ho15 hb hg_ hnew_; clear hg_ hnew_; (first | rw [← Ny273.out] at ho15 | (simp only [Int.reduceToNat] at ho15; rw [← Ny273.out] at ho15)); have HO275 := Aside0.mk (Kd.R_lower (Kd.R_newB (Kd.R_newM (M := fun k_ => (w.heap.size ≤ k_)) ho15 (below_size (bl)) (fun k_ h_ => h_)) (g := gb266) (o := .cells #[.int .i64 a1_0, .int .i64 a1_1, .int .i64 a1_2] 27 (0, 0)) (be BK266)) (below_size (bl))); replace HO_8 := Aside0.mk (Kd.N_elder' (by (with_reducible repeat (first | apply Kd.N_alloc | apply Kd.N_drewN | apply Kd.N_drew)); exact HO_8.out) (Kd.R_base ho15) hb); replace BK266 := bb BK266 hb; replace HB := bs hb; clear hb ho15; obtain ⟨Ao16, co16, eo16⟩ := Kd.N_slice HO_8.out; subst eo16; have p276 : 0 ≤ (x21_1 : Int) := of_decide_eq_true (by first | (with_reducible assumption) | assumption); have q276 : x21_1 < (x8_1.length : Int) := of_decide_eq_true (by first | (with_reducible assumption) | assumption); obtain ⟨ad276, A276_0, c276_0, e276, hx276_0, hl276_0, hi276_0⟩ := at_L2 (Kd.N_reads' HO_8.out).2.2 x21_1 p276 q276; cases e276; obtain ⟨ce276, hce276, hMe276, hcc276⟩ := Kd.N_get HO_8.out [] x21_1 p276 (by first | exact q276 | exact of_decide_eq_true (by first | (with_reducible assumption) | assumption) | (have e_ := (Kd.N_reads' HO_8.out).1; omega)); obtain ⟨ua276_0, uc276_0, rfl, ul276_0, ge276_0⟩ := Kd.FK_slice_open hMe276; have hv276_0 := hcc276 0 _ rfl; rw [Nat.add_zero, show ((Kd.slice 27 k27)).sz = 1 from rfl, Nat.mul_one] at hv276_0; replace hv276_0 := Option.some.inj (hv276_0.symm.trans hx276_0); injection hv276_0 with hva_ hvn_ hvc_; rw [hva_] at ge276_0; rw [hvc_] at ul276_0; have HL276_0 := Aside0.mk (show Kd.V k27 27 _ w.heap.size _ _ (rd_L2 x8_1 x21_1) from Kd.V_mk ul276_0 ge276_0); clear hva_ hvn_ hvc_ ge276_0 ul276_0; clear hcc276 hce276; have HR276_0 := Aside0.mk hi276_0; have HC276_0 := Aside0.mk hl276_0; clear hi276_0 hl276_0; replace p276 := eq_true p276; replace q276 := eq_true q276))
      go_loopg [10, 30] k1 (fun kq v10 v30 w' => ∃ (x10_2 : List (S27)) (x30_2 : Int), v30 = .int .i64 x30_2 ∧ Aside0 (impl_spheres.l1 kq a0 x8_1 x21_1 x10_2 a2 x21_1 (rd_L2 x8_1 x21_1) ((rd_L2 x8_1 x21_1).length : Int) x30_2 a1_0 a1_1 a1_2 = some (r1, r2)) ∧ Aside0 (kq ≤ k1) ∧ Aside0 (Kd.N (Kd.slice 27 k27) 24 w' w.heap.size (fun k_ => (w.heap.size ≤ k_) ∧ some k_ ≠ (v10 : Value).ownBlock ∧ k_ ≠ gb266) (.slice (some ad276) x8_1.length co16) x8_1) ∧ Aside0 (Kd.R k27 27 w' w.heap.size (fun k_ => (w.heap.size ≤ k_) ∧ k_ ≠ gb266) v10 x10_2) ∧ Aside0 (Kd.V k27 27 w' w.heap.size (fun k_ => (w.heap.size ≤ k_) ∧ some k_ ≠ ((.slice (some ad276) x8_1.length co16) : Value).ownBlock ∧ some k_ ≠ (v10 : Value).ownBlock ∧ k_ ≠ gb266) (.slice A276_0 (rd_L2 x8_1 x21_1).length c276_0) (rd_L2 x8_1 x21_1)) ∧ Aside0 (w'.heap[gb266]? = some (.cells #[.int .i64 a1_0, .int .i64 a1_1, .int .i64 a1_2] 27 (0, 0))) ∧ Aside0 (Below w.heap.size w w'))
      case atStart => exact ⟨(y273), (0), (by first | rfl | (simp; done) | (simp [*]; done)), H', ⟨Nat.le_refl _⟩, ⟨by (with_reducible repeat (first | apply Kd.N_alloc | apply Kd.N_drewN | apply Kd.N_drew)); exact Kd.N_mono HO_8.out (fun _ hk => ⟨hk.1.1, ⟨hk.2, hk.1.2⟩⟩)⟩, ⟨by (with_reducible repeat (first | apply Kd.R_alloc | apply Kd.R_drewN | apply Kd.R_drew)); exact Kd.R_mono HO275.out (fun _ hk => ⟨hk.1.1, hk.2⟩)⟩, ⟨by (with_reducible repeat (first | apply Kd.V_alloc | apply Kd.V_drewN | apply Kd.V_drew)); exact Kd.V_mono HL276_0.out (fun _ hk => ⟨hk.1.1.1, ⟨hk.2, ⟨hk.1.2, hk.1.1.2⟩⟩⟩)⟩, ⟨be BK266⟩, ⟨bl⟩⟩
      case round =>
       clear H'
       obtain ⟨x10_2, x30_2, rfl, HA, HK2, HO_8, HO_10, HO_28, BK266, HB⟩ := hrel
       cases gk with
       | zero => exact absurd HA.out (by simp [impl_spheres.l1])
       | succ k2 =>
        have H := HA.out
        clear HA
        simp only [impl_spheres.l1] at H
        replace H := ii H
        rcases H with ⟨c17, H⟩ | ⟨c17, H⟩
        ·have c17b0 := decide_eq_true c17
         clear c17
         replace H := ii H
         rcases H with ⟨c18, H⟩ | ⟨c18, H⟩
         ·have c18b0 := decide_eq_true c18
          clear c18
          replace H := ii H
          rcases H with ⟨c19, H⟩ | ⟨c19, H⟩
          ·have c19b0 := decide_eq_true c19
           clear c19
           replace H := zi H
           obtain ⟨⟨t282, t285⟩, A20, H⟩ := H
           try dsimp only at H
           by_cases c21 : t285 = true
           ·subst c21
            rw [if_pos rfl] at H
            have H' := Aside0.mk H
            clear H
            have p280 : 0 ≤ (x30_2 : Int) := za
            have q280 : x30_2 < ((rd_L2 x8_1 x21_1).length : Int) := za
            obtain ⟨ad280, e280, hx280_0, hx280_1, hx280_2⟩ := at_T27 (Kd.V_reads' HO_28.out).2.2 x30_2 p280 q280
            cases e280
            replace p280 := eq_true p280
            replace q280 := eq_true q280
            go_wp2_with (first | ((with_reducible refine zg 12 rfl ?_); refine z3 12 27 0 0 0 ?_; intro gb281 hg w22 BK281 hb; have GW281 := sg hg; have NB266_281 := nl hg BK266; replace HO_8 := Aside0.mk (Kd.N_below (Kd.N_elderB (by (with_reducible repeat (first | apply Kd.N_alloc | apply Kd.N_drewN | apply Kd.N_drew)); exact HO_8.out) gb281 (Nat.le_of_eq hg.symm)) hb); replace HO_10 := Aside0.mk (Kd.R_below (Kd.R_elderB (by (with_reducible repeat (first | apply Kd.R_alloc | apply Kd.R_drewN | apply Kd.R_drew)); exact HO_10.out) gb281 (Nat.le_of_eq hg.symm)) hb); replace HO_28 := Aside0.mk (Kd.V_below (Kd.V_elderB (by (with_reducible repeat (first | apply Kd.V_alloc | apply Kd.V_drewN | apply Kd.V_drew)); exact HO_28.out) gb281 (Nat.le_of_eq hg.symm)) hb); replace BK266 := bb BK266 hb; replace HB := bs hb; clear hb hg; obtain ⟨hnb23, hnc23⟩ := zm NB266_281; obtain ⟨hcz24_0, hcz24_1, hcz24_2, hfz24_0, hfz24_1, hfz24_2⟩ := cq3 BK281) | ((with_reducible refine zf 141 rfl ?_); refine g1 (some 37) Try.func141 #[.int .i64 a0, .agg #[.int .i64 ((rd_T27 (rd_L2 x8_1 x21_1) x30_2).f0), .int .i64 ((rd_T27 (rd_L2 x8_1 x21_1) x30_2).f1), .int .i64 ((rd_T27 (rd_L2 x8_1 x21_1) x30_2).f2)], .int .i64 0] ?_; (with_reducible refine (impl_someNeighbours.calls k2 a0 ((rd_T27 (rd_L2 x8_1 x21_1) x30_2).f0) ((rd_T27 (rd_L2 x8_1 x21_1) x30_2).f1) ((rd_T27 (rd_L2 x8_1 x21_1) x30_2).f2) 0 t282 true _ A20.out).mono ?_); rintro e w25 ⟨v283, rfl, ho0, hb⟩; refine ⟨_, rfl, ?_⟩; have HO284 := Aside0.mk (Kd.R_lower (Kd.R_newB (Kd.R_newB (Kd.R_new' (Kd.R_newM (M := fun k_ => (w.heap.size ≤ k_)) ho0 (below_size (bl)) (fun k_ h_ => h_)) (Kd.R_lt (by (with_reducible repeat (first | apply Kd.R_alloc | apply Kd.R_drewN | apply Kd.R_drew)); exact (Kd.R_mono (Kd.R_far (p := ⟨gb281, 2, none⟩) (Kd.R_far (p := ⟨gb281, 1, none⟩) (Kd.R_far (p := ⟨gb281, 0, none⟩) (Kd.R_mono HO_10.out (fun k_ hk => (⟨hk, hk.2⟩ : _ ∧ k_ ≠ gb281))) (fun _ hk => hk.2) (.int .i64 ((rd_T27 (rd_L2 x8_1 x21_1) x30_2).f0))) (fun _ hk => hk.2) (.int .i64 ((rd_T27 (rd_L2 x8_1 x21_1) x30_2).f1))) (fun _ hk => hk.2) (.int .i64 ((rd_T27 (rd_L2 x8_1 x21_1) x30_2).f2))) (fun _ h_ => h_.1))))) (g := gb266) (o := .cells #[.int .i64 a1_0, .int .i64 a1_1, .int .i64 a1_2] 27 (0, 0)) (bp)) (g := gb281) (o := .cells #[.int .i64 ((rd_T27 (rd_L2 x8_1 x21_1) x30_2).f0), .int .i64 ((rd_T27 (rd_L2 x8_1 x21_1) x30_2).f1), .int .i64 ((rd_T27 (rd_L2 x8_1 x21_1) x30_2).f2)] 27 (0, 0)) (bp)) (below_size (bl))); replace HO_8 := Aside0.mk (Kd.N_elder' (by (with_reducible repeat (first | apply Kd.N_alloc | apply Kd.N_drewN | apply Kd.N_drew)); exact (Kd.N_mono (Kd.N_far (p := ⟨gb281, 2, none⟩) (Kd.N_far (p := ⟨gb281, 1, none⟩) (Kd.N_far (p := ⟨gb281, 0, none⟩) (Kd.N_mono HO_8.out (fun k_ hk => (⟨hk, hk.2⟩ : _ ∧ k_ ≠ gb281))) (fun _ hk => hk.2) (.int .i64 ((rd_T27 (rd_L2 x8_1 x21_1) x30_2).f0))) (fun _ hk => hk.2) (.int .i64 ((rd_T27 (rd_L2 x8_1 x21_1) x30_2).f1))) (fun _ hk => hk.2) (.int .i64 ((rd_T27 (rd_L2 x8_1 x21_1) x30_2).f2))) (fun _ h_ => h_.1))) (Kd.R_base ho0) hb); replace HO_10 := Aside0.mk (Kd.R_elder' (by (with_reducible repeat (first | apply Kd.R_alloc | apply Kd.R_drewN | apply Kd.R_drew)); exact (Kd.R_mono (Kd.R_far (p := ⟨gb281, 2, none⟩) (Kd.R_far (p := ⟨gb281, 1, none⟩) (Kd.R_far (p := ⟨gb281, 0, none⟩) (Kd.R_mono HO_10.out (fun k_ hk => (⟨hk, hk.2⟩ : _ ∧ k_ ≠ gb281))) (fun _ hk => hk.2) (.int .i64 ((rd_T27 (rd_L2 x8_1 x21_1) x30_2).f0))) (fun _ hk => hk.2) (.int .i64 ((rd_T27 (rd_L2 x8_1 x21_1) x30_2).f1))) (fun _ hk => hk.2) (.int .i64 ((rd_T27 (rd_L2 x8_1 x21_1) x30_2).f2))) (fun _ h_ => h_.1))) (Kd.R_base ho0) hb); replace HO_28 := Aside0.mk (Kd.V_elder' (by (with_reducible repeat (first | apply Kd.V_alloc | apply Kd.V_drewN | apply Kd.V_drew)); exact (Kd.V_mono (Kd.V_far (p := ⟨gb281, 2, none⟩) (Kd.V_far (p := ⟨gb281, 1, none⟩) (Kd.V_far (p := ⟨gb281, 0, none⟩) (Kd.V_mono HO_28.out (fun k_ hk => (⟨hk, hk.2⟩ : _ ∧ k_ ≠ gb281))) (fun _ hk => hk.2) (.int .i64 ((rd_T27 (rd_L2 x8_1 x21_1) x30_2).f0))) (fun _ hk => hk.2) (.int .i64 ((rd_T27 (rd_L2 x8_1 x21_1) x30_2).f1))) (fun _ hk => hk.2) (.int .i64 ((rd_T27 (rd_L2 x8_1 x21_1) x30_2).f2))) (fun _ h_ => h_.1))) (Kd.R_base ho0) hb); replace BK266 := Aside0.mk (blk_below (g := gb266) (o := .cells #[.int .i64 a1_0, .int .i64 a1_1, .int .i64 a1_2] 27 (0, 0)) (bp) hb); replace BK281 := Aside0.mk (blk_below (g := gb281) (o := .cells #[.int .i64 ((rd_T27 (rd_L2 x8_1 x21_1) x30_2).f0), .int .i64 ((rd_T27 (rd_L2 x8_1 x21_1) x30_2).f1), .int .i64 ((rd_T27 (rd_L2 x8_1 x21_1) x30_2).f2)] 27 (0, 0)) (bp) hb); replace HB := bs hb; (try clear hb); (try clear hb2); (try clear hk); (try clear hi); (try clear ho0); obtain ⟨Ao26, co26, eo26⟩ := Kd.R_slice HO284.out; subst eo26))
            go_loopg [10, 44] k2 (fun kq v10 v44 w' => ∃ (x10_3 : List (S27)) (x44_3 : Int), v44 = .int .i64 x44_3 ∧ Aside0 (impl_spheres.l2 kq a0 x8_1 x21_1 x10_3 a2 x21_1 (rd_L2 x8_1 x21_1) ((rd_L2 x8_1 x21_1).length : Int) x30_2 t282 (t282.length : Int) x44_3 a1_0 a1_1 a1_2 = some (r1, r2)) ∧ Aside0 (kq ≤ k2) ∧ Aside0 (Kd.N (Kd.slice 27 k27) 24 w' w.heap.size (fun k_ => (w.heap.size ≤ k_) ∧ some k_ ≠ (v10 : Value).ownBlock ∧ some k_ ≠ ((.slice Ao26 t282.length co26) : Value).ownBlock ∧ k_ ≠ gb266 ∧ k_ ≠ gb281) (.slice (some ad276) x8_1.length co16) x8_1) ∧ Aside0 (Kd.R k27 27 w' w.heap.size (fun k_ => (w.heap.size ≤ k_) ∧ some k_ ≠ ((.slice Ao26 t282.length co26) : Value).ownBlock ∧ k_ ≠ gb266 ∧ k_ ≠ gb281) v10 x10_3) ∧ Aside0 (Kd.V k27 27 w' w.heap.size (fun k_ => (w.heap.size ≤ k_) ∧ some k_ ≠ ((.slice (some ad276) x8_1.length co16) : Value).ownBlock ∧ some k_ ≠ (v10 : Value).ownBlock ∧ some k_ ≠ ((.slice Ao26 t282.length co26) : Value).ownBlock ∧ k_ ≠ gb266 ∧ k_ ≠ gb281) (.slice (some ad280) (rd_L2 x8_1 x21_1).length c276_0) (rd_L2 x8_1 x21_1)) ∧ Aside0 (Kd.R k27 27 w' w.heap.size (fun k_ => (w.heap.size ≤ k_) ∧ some k_ ≠ (v10 : Value).ownBlock ∧ k_ ≠ gb266 ∧ k_ ≠ gb281) (.slice Ao26 t282.length co26) t282) ∧ Aside0 (w'.heap[gb266]? = some (.cells #[.int .i64 a1_0, .int .i64 a1_1, .int .i64 a1_2] 27 (0, 0))) ∧ Aside0 (w'.heap[gb281]? = some (.cells #[.int .i64 ((rd_T27 (rd_L2 x8_1 x21_1) x30_2).f0), .int .i64 ((rd_T27 (rd_L2 x8_1 x21_1) x30_2).f1), .int .i64 ((rd_T27 (rd_L2 x8_1 x21_1) x30_2).f2)] 27 (0, 0))) ∧ Aside0 (Below w.heap.size w w'))
            case atStart => exact ⟨(x10_2), (0), (by first | rfl | (simp; done) | (simp [*]; done)), H', ⟨Nat.le_refl _⟩, ⟨by (with_reducible repeat (first | apply Kd.N_alloc | apply Kd.N_drewN | apply Kd.N_drew)); exact Kd.N_mono HO_8.out (fun _ hk => ⟨hk.1.1.1, ⟨hk.1.1.2.1, ⟨hk.2, ⟨hk.1.1.2.2, hk.1.2⟩⟩⟩⟩)⟩, ⟨by (with_reducible repeat (first | apply Kd.R_alloc | apply Kd.R_drewN | apply Kd.R_drew)); exact Kd.R_mono HO_10.out (fun _ hk => ⟨hk.1.1.1, ⟨hk.2, ⟨hk.1.1.2, hk.1.2⟩⟩⟩)⟩, ⟨by (with_reducible repeat (first | apply Kd.V_alloc | apply Kd.V_drewN | apply Kd.V_drew)); exact Kd.V_mono HO_28.out (fun _ hk => ⟨hk.1.1.1, ⟨hk.1.1.2.1, ⟨hk.1.1.2.2.1, ⟨hk.2, ⟨hk.1.1.2.2.2, hk.1.2⟩⟩⟩⟩⟩)⟩, ⟨by (with_reducible repeat (first | apply Kd.R_alloc | apply Kd.R_drewN | apply Kd.R_drew)); exact Kd.R_mono HO284.out (fun _ hk => ⟨hk.1.1.1.1, ⟨hk.1.1.2, ⟨hk.1.2, hk.2⟩⟩⟩)⟩, ⟨be BK266⟩, ⟨be BK281⟩, ⟨bl⟩⟩
            case round =>
             clear H'
             obtain ⟨x10_3, x44_3, rfl, HA, HK3, HO_8, HO_10, HO_28, HO_42, BK266, BK281, HB⟩ := hrel
             cases gk with
             | zero => exact absurd HA.out (by simp [impl_spheres.l2])
             | succ k3 =>
              have H := HA.out
              clear HA
              simp only [impl_spheres.l2] at H
              replace H := ii H
              rcases H with ⟨c27, H⟩ | ⟨c27, H⟩
              ·have c27b0 := decide_eq_true c27
               clear c27
               replace H := ii H
               rcases H with ⟨c28, H⟩ | ⟨c28, H⟩
               ·have c28b0 := decide_eq_true c28
                clear c28
                replace H := ii H
                rcases H with ⟨c29, H⟩ | ⟨c29, H⟩
                ·have c29b0 := decide_eq_true c29
                 clear c29
                 replace H := zi H
                 obtain ⟨t288, A30, H⟩ := H
                 try dsimp only at H
                 replace H := ii H
                 rcases H with ⟨c31, H⟩ | ⟨c31, H⟩
                 ·have c31b0 := decide_eq_true c31
                  clear c31
                  replace H := ii H
                  rcases H with ⟨c32, H⟩ | ⟨c32, H⟩
                  ·have LMc32 := Aside0.mk c32
                   clear c32
                   obtain ⟨y289, hy289⟩ : ∃ y_ : List (S27), y_ = (x10_3 ++ [(⟨(rd_T27 t282 x44_3).f0, (rd_T27 t282 x44_3).f1, (rd_T27 t282 x44_3).f2⟩ : S27)]) := ⟨_, rfl⟩
                   replace H : (impl_spheres.l2 k3 a0 x8_1 x21_1 y289 a2 x21_1 (rd_L2 x8_1 x21_1) ((rd_L2 x8_1 x21_1).length : Int) x30_2 t282 (t282.length : Int) (wrap64 (x44_3 + 1)) a1_0 a1_1 a1_2) = some (r1, r2) := by first | exact hy289 ▸ H | exact H
                   have Ny289 := Aside0.mk hy289
                   clear hy289
                   have H' := Aside0.mk H
                   clear H
                   have p286 : 0 ≤ (x44_3 : Int) := za
                   have q286 : x44_3 < (t282.length : Int) := za
                   obtain ⟨ad286, e286, hx286_0, hx286_1, hx286_2⟩ := at_T27 (Kd.R_reads' HO_42.out).2.2 x44_3 p286 q286
                   cases e286
                   replace p286 := eq_true p286
                   replace q286 := eq_true q286
                   go_wp2_with (first | ((with_reducible refine zg 16 rfl ?_); refine z3 16 27 0 0 0 ?_; intro gb287 hg w33 BK287 hb; have GW287 := sg hg; have NB266_287 := nl hg BK266; have NB281_287 := nl hg BK281; replace HO_8 := Aside0.mk (Kd.N_below (Kd.N_elderB (by (with_reducible repeat (first | apply Kd.N_alloc | apply Kd.N_drewN | apply Kd.N_drew)); exact HO_8.out) gb287 (Nat.le_of_eq hg.symm)) hb); replace HO_10 := Aside0.mk (Kd.R_below (Kd.R_elderB (by (with_reducible repeat (first | apply Kd.R_alloc | apply Kd.R_drewN | apply Kd.R_drew)); exact HO_10.out) gb287 (Nat.le_of_eq hg.symm)) hb); replace HO_28 := Aside0.mk (Kd.V_below (Kd.V_elderB (by (with_reducible repeat (first | apply Kd.V_alloc | apply Kd.V_drewN | apply Kd.V_drew)); exact HO_28.out) gb287 (Nat.le_of_eq hg.symm)) hb); replace HO_42 := Aside0.mk (Kd.R_below (Kd.R_elderB (by (with_reducible repeat (first | apply Kd.R_alloc | apply Kd.R_drewN | apply Kd.R_drew)); exact HO_42.out) gb287 (Nat.le_of_eq hg.symm)) hb); replace BK266 := bb BK266 hb; replace BK281 := bb BK281 hb; replace HB := bs hb; clear hb hg; obtain ⟨hnb34, hnc34⟩ := zm NB266_287; obtain ⟨hnb35, hnc35⟩ := zm NB281_287; obtain ⟨hcz36_0, hcz36_1, hcz36_2, hfz36_0, hfz36_1, hfz36_2⟩ := cq3 BK287; obtain ⟨hnb37, hnc37⟩ := zn NB266_281; obtain ⟨hcz38_0, hcz38_1, hcz38_2, hfz38_0, hfz38_1, hfz38_2⟩ := cq3 BK266) | ((with_reducible refine zf 110 rfl ?_); refine g1 (some 51) Try.func110 #[.int .i64 a0, .agg #[.int .i64 a1_0, .int .i64 a1_1, .int .i64 a1_2], .agg #[.int .i64 ((rd_T27 t282 x44_3).f0), .int .i64 ((rd_T27 t282 x44_3).f1), .int .i64 ((rd_T27 t282 x44_3).f2)]] ?_; (with_reducible refine (impl_distance.calls k3 a0 a1_0 a1_1 a1_2 ((rd_T27 t282 x44_3).f0) ((rd_T27 t282 x44_3).f1) ((rd_T27 t282 x44_3).f2) t288 _ A30.out).mono ?_); rintro e w39 ⟨rfl, hb⟩; refine ⟨_, rfl, ?_⟩; replace HO_8 := Aside0.mk (Kd.N_below (by (with_reducible repeat (first | apply Kd.N_alloc | apply Kd.N_drewN | apply Kd.N_drew)); exact (Kd.N_mono (Kd.N_far (p := ⟨gb287, 2, none⟩) (Kd.N_far (p := ⟨gb287, 1, none⟩) (Kd.N_far (p := ⟨gb287, 0, none⟩) (Kd.N_mono HO_8.out (fun k_ hk => (⟨hk, hk.2⟩ : _ ∧ k_ ≠ gb287))) (fun _ hk => hk.2) (.int .i64 ((rd_T27 t282 x44_3).f0))) (fun _ hk => hk.2) (.int .i64 ((rd_T27 t282 x44_3).f1))) (fun _ hk => hk.2) (.int .i64 ((rd_T27 t282 x44_3).f2))) (fun _ h_ => h_.1))) hb); replace HO_10 := Aside0.mk (Kd.R_below (by (with_reducible repeat (first | apply Kd.R_alloc | apply Kd.R_drewN | apply Kd.R_drew)); exact (Kd.R_mono (Kd.R_far (p := ⟨gb287, 2, none⟩) (Kd.R_far (p := ⟨gb287, 1, none⟩) (Kd.R_far (p := ⟨gb287, 0, none⟩) (Kd.R_mono HO_10.out (fun k_ hk => (⟨hk, hk.2⟩ : _ ∧ k_ ≠ gb287))) (fun _ hk => hk.2) (.int .i64 ((rd_T27 t282 x44_3).f0))) (fun _ hk => hk.2) (.int .i64 ((rd_T27 t282 x44_3).f1))) (fun _ hk => hk.2) (.int .i64 ((rd_T27 t282 x44_3).f2))) (fun _ h_ => h_.1))) hb); replace HO_28 := Aside0.mk (Kd.V_below (by (with_reducible repeat (first | apply Kd.V_alloc | apply Kd.V_drewN | apply Kd.V_drew)); exact (Kd.V_mono (Kd.V_far (p := ⟨gb287, 2, none⟩) (Kd.V_far (p := ⟨gb287, 1, none⟩) (Kd.V_far (p := ⟨gb287, 0, none⟩) (Kd.V_mono HO_28.out (fun k_ hk => (⟨hk, hk.2⟩ : _ ∧ k_ ≠ gb287))) (fun _ hk => hk.2) (.int .i64 ((rd_T27 t282 x44_3).f0))) (fun _ hk => hk.2) (.int .i64 ((rd_T27 t282 x44_3).f1))) (fun _ hk => hk.2) (.int .i64 ((rd_T27 t282 x44_3).f2))) (fun _ h_ => h_.1))) hb); replace HO_42 := Aside0.mk (Kd.R_below (by (with_reducible repeat (first | apply Kd.R_alloc | apply Kd.R_drewN | apply Kd.R_drew)); exact (Kd.R_mono (Kd.R_far (p := ⟨gb287, 2, none⟩) (Kd.R_far (p := ⟨gb287, 1, none⟩) (Kd.R_far (p := ⟨gb287, 0, none⟩) (Kd.R_mono HO_42.out (fun k_ hk => (⟨hk, hk.2⟩ : _ ∧ k_ ≠ gb287))) (fun _ hk => hk.2) (.int .i64 ((rd_T27 t282 x44_3).f0))) (fun _ hk => hk.2) (.int .i64 ((rd_T27 t282 x44_3).f1))) (fun _ hk => hk.2) (.int .i64 ((rd_T27 t282 x44_3).f2))) (fun _ h_ => h_.1))) hb); replace BK266 := Aside0.mk (blk_below (g := gb266) (o := .cells #[.int .i64 a1_0, .int .i64 a1_1, .int .i64 a1_2] 27 (0, 0)) (bp) hb); replace BK281 := Aside0.mk (blk_below (g := gb281) (o := .cells #[.int .i64 ((rd_T27 (rd_L2 x8_1 x21_1) x30_2).f0), .int .i64 ((rd_T27 (rd_L2 x8_1 x21_1) x30_2).f1), .int .i64 ((rd_T27 (rd_L2 x8_1 x21_1) x30_2).f2)] 27 (0, 0)) (bp) hb); replace BK287 := Aside0.mk (blk_below (g := gb287) (o := .cells #[.int .i64 ((rd_T27 t282 x44_3).f0), .int .i64 ((rd_T27 t282 x44_3).f1), .int .i64 ((rd_T27 t282 x44_3).f2)] 27 (0, 0)) (bp) hb); replace HB := bs hb; (try clear hb); obtain ⟨hcz40_0, hcz40_1, hcz40_2, hfz40_0, hfz40_1, hfz40_2⟩ := cq3 BK287) | ((with_reducible refine gate_builtin (b := .append) (xs := #[.tmp 54, .tmp 56]) rfl ?_); at_builtin; refine Kd.R_append k27 (w0 := w) w.heap.size rfl (.tmp 54) (.tmp 56) 24 27 (.agg #[(.int .i64 0), (.int .i64 0), (.int .i64 0)]) 24 rfl Try.underlying24 info27 rfl (by decide) (by omega) u10 x10_3 (⟨(rd_T27 t282 x44_3).f0, (rd_T27 t282 x44_3).f1, (rd_T27 t282 x44_3).f2⟩ : S27) [.int .i64 ((rd_T27 t282 x44_3).f0), .int .i64 ((rd_T27 t282 x44_3).f1), .int .i64 ((rd_T27 t282 x44_3).f2)] (fun k_ => (w.heap.size ≤ k_) ∧ some k_ ≠ (.slice (some ad286) t282.length co26 : Value).ownBlock ∧ k_ ≠ gb266 ∧ k_ ≠ gb281 ∧ k_ ≠ gb287) (fun _ => False) rfl rfl ?aP (fun _ hk => hk.elim) ?aF ?aO ?aB ?aS ?aL ?_; (case aP => exact k27_mkM _ _ _ (⟨(rd_T27 t282 x44_3).f0, (rd_T27 t282 x44_3).f1, (rd_T27 t282 x44_3).f2⟩ : S27)); (case aB => exact (bl)); (case aF => exact (fun k_ hk => ⟨(Nat.le_trans (below_size (bl)) hk), Kd.fresh' (Kd.R_lt (by (with_reducible repeat (first | apply Kd.R_alloc | apply Kd.R_drewN | apply Kd.R_drew)); exact HO_42.out)) k_ hk, Kd.freshB (g := gb266) (o := .cells #[.int .i64 a1_0, .int .i64 a1_1, .int .i64 a1_2] 27 (0, 0)) (be BK266) k_ hk, Kd.freshB (g := gb281) (o := .cells #[.int .i64 ((rd_T27 (rd_L2 x8_1 x21_1) x30_2).f0), .int .i64 ((rd_T27 (rd_L2 x8_1 x21_1) x30_2).f1), .int .i64 ((rd_T27 (rd_L2 x8_1 x21_1) x30_2).f2)] 27 (0, 0)) (be BK281) k_ hk, Kd.freshB (g := gb287) (o := .cells #[.int .i64 ((rd_T27 t282 x44_3).f0), .int .i64 ((rd_T27 t282 x44_3).f1), .int .i64 ((rd_T27 t282 x44_3).f2)] 27 (0, 0)) (be BK287) k_ hk⟩)); (case aO => exact (by (with_reducible repeat (first | apply Kd.R_alloc | apply Kd.R_drewN | apply Kd.R_drew)); exact Kd.R_mono HO_10.out (fun _ hk => ⟨hk.1.1, ⟨hk.1.2.1, ⟨hk.1.2.2.1, ⟨hk.1.2.2.2, hk.2⟩⟩⟩⟩))); (case aS => exact (below_size (bl))); (case aL => have := LMc32.out; omega); intro v290 w41 ho hb hg hat; rw [← Ny289.out] at ho; have n0_ := Aside0.mk (Kd.N_afterv (ok := (fun k_ => (w.heap.size ≤ k_) ∧ some k_ ≠ (.slice (some ad286) t282.length co26 : Value).ownBlock ∧ k_ ≠ gb266 ∧ k_ ≠ gb281 ∧ k_ ≠ gb287)) (by (with_reducible repeat (first | apply Kd.N_alloc | apply Kd.N_drewN | apply Kd.N_drew)); exact Kd.N_mono HO_8.out (fun _ hk => ⟨⟨hk.1.1, ⟨hk.1.2.2.1, ⟨hk.1.2.2.2.1, ⟨hk.1.2.2.2.2, hk.2⟩⟩⟩⟩, hk.1.2.1⟩)) hg hat); have n1_ := Aside0.mk (Kd.V_afterv (ok := (fun k_ => (w.heap.size ≤ k_) ∧ some k_ ≠ (.slice (some ad276) x8_1.length co16 : Value).ownBlock ∧ some k_ ≠ (.slice (some ad286) t282.length co26 : Value).ownBlock ∧ k_ ≠ gb266 ∧ k_ ≠ gb281 ∧ k_ ≠ gb287)) (by (with_reducible repeat (first | apply Kd.V_alloc | apply Kd.V_drewN | apply Kd.V_drew)); exact Kd.V_mono HO_28.out (fun _ hk => ⟨⟨hk.1.1, ⟨hk.1.2.1, ⟨hk.1.2.2.2.1, ⟨hk.1.2.2.2.2.1, ⟨hk.1.2.2.2.2.2, hk.2⟩⟩⟩⟩⟩, hk.1.2.2.1⟩)) hg hat); have n2_ := Aside0.mk (Kd.R_after (ok := (fun k_ => (w.heap.size ≤ k_) ∧ k_ ≠ gb266 ∧ k_ ≠ gb281 ∧ k_ ≠ gb287)) (by (with_reducible repeat (first | apply Kd.R_alloc | apply Kd.R_drewN | apply Kd.R_drew)); exact Kd.R_mono HO_42.out (fun _ hk => ⟨⟨hk.1.1, ⟨hk.1.2.2.1, ⟨hk.1.2.2.2, hk.2⟩⟩⟩, hk.1.2.1⟩)) hg hat); have n3_ := Aside0.mk (blk_grown (g := gb266) (o := .cells #[.int .i64 a1_0, .int .i64 a1_1, .int .i64 a1_2] 27 (0, 0)) (be BK266) hg (Kd.R_away HO_10.out (fun _ hk => hk.1.2.2.1))); have n4_ := Aside0.mk (blk_grown (g := gb281) (o := .cells #[.int .i64 ((rd_T27 (rd_L2 x8_1 x21_1) x30_2).f0), .int .i64 ((rd_T27 (rd_L2 x8_1 x21_1) x30_2).f1), .int .i64 ((rd_T27 (rd_L2 x8_1 x21_1) x30_2).f2)] 27 (0, 0)) (be BK281) hg (Kd.R_away HO_10.out (fun _ hk => hk.1.2.2.2))); have n5_ := Aside0.mk (blk_grown (g := gb287) (o := .cells #[.int .i64 ((rd_T27 t282 x44_3).f0), .int .i64 ((rd_T27 t282 x44_3).f1), .int .i64 ((rd_T27 t282 x44_3).f2)] 27 (0, 0)) (be BK287) hg (Kd.R_away HO_10.out (fun _ hk => hk.2))); have n6_ := Aside0.mk (hb); have n7_ := Aside0.mk (ho); clear HO_8; clear HO_28; clear HO_42; clear BK266; clear BK281; clear BK287; clear HB; clear HO_10; have HO_8 := n0_; have HO_28 := n1_; have HO_42 := n2_; have BK266 := n3_; have BK281 := n4_; have BK287 := n5_; have HB := n6_; have HO291 := n7_; clear n0_ n1_ n2_ n3_ n4_ n5_ n6_ n7_; clear ho hb hg hat))
                   go_roundg k3
                   case measure => have := HK1.out; have := HK2.out; have := HK3.out; omega
                   case rel => exact ⟨(y289), (wrap64 (x44_3 + 1)), (by first | rfl | (simp; done) | (simp [*]; done)), H', ⟨by have := HK1.out; have := HK2.out; have := HK3.out; omega⟩, ⟨by (with_reducible repeat (first | apply Kd.N_alloc | apply Kd.N_drewN | apply Kd.N_drew)); exact Kd.N_mono HO_8.out (fun _ hk => ⟨hk.1.1, ⟨hk.2, ⟨hk.1.2.1, ⟨hk.1.2.2.1, hk.1.2.2.2.1⟩⟩⟩⟩)⟩, ⟨by (with_reducible repeat (first | apply Kd.R_alloc | apply Kd.R_drewN | apply Kd.R_drew)); exact Kd.R_mono HO291.out (fun _ hk => ⟨hk.1, ⟨hk.2.1, ⟨hk.2.2.1, hk.2.2.2.1⟩⟩⟩)⟩, ⟨by (with_reducible repeat (first | apply Kd.V_alloc | apply Kd.V_drewN | apply Kd.V_drew)); exact Kd.V_mono HO_28.out (fun _ hk => ⟨hk.1.1, ⟨hk.1.2.1, ⟨hk.2, ⟨hk.1.2.2.1, ⟨hk.1.2.2.2.1, hk.1.2.2.2.2.1⟩⟩⟩⟩⟩)⟩, ⟨by (with_reducible repeat (first | apply Kd.R_alloc | apply Kd.R_drewN | apply Kd.R_drew)); exact Kd.R_mono HO_42.out (fun _ hk => ⟨hk.1.1, ⟨hk.2, ⟨hk.1.2.1, hk.1.2.2.1⟩⟩⟩)⟩, ⟨be BK266⟩, ⟨be BK281⟩, ⟨bl⟩⟩
                  ·exact absurd H (by simp)
                 ·have c31b0 := decide_eq_false c31
                  clear c31
                  have H' := Aside0.mk H
                  clear H
                  have p286 : 0 ≤ (x44_3 : Int) := za
                  have q286 : x44_3 < (t282.length : Int) := za
                  obtain ⟨ad286, e286, hx286_0, hx286_1, hx286_2⟩ := at_T27 (Kd.R_reads' HO_42.out).2.2 x44_3 p286 q286
                  cases e286
                  replace p286 := eq_true p286
                  replace q286 := eq_true q286
                  go_wp2_with (first | ((with_reducible refine zg 16 rfl ?_); refine z3 16 27 0 0 0 ?_; intro gb287 hg w42 BK287 hb; have GW287 := sg hg; have NB266_287 := nl hg BK266; have NB281_287 := nl hg BK281; replace HO_8 := Aside0.mk (Kd.N_below (Kd.N_elderB (by (with_reducible repeat (first | apply Kd.N_alloc | apply Kd.N_drewN | apply Kd.N_drew)); exact HO_8.out) gb287 (Nat.le_of_eq hg.symm)) hb); replace HO_10 := Aside0.mk (Kd.R_below (Kd.R_elderB (by (with_reducible repeat (first | apply Kd.R_alloc | apply Kd.R_drewN | apply Kd.R_drew)); exact HO_10.out) gb287 (Nat.le_of_eq hg.symm)) hb); replace HO_28 := Aside0.mk (Kd.V_below (Kd.V_elderB (by (with_reducible repeat (first | apply Kd.V_alloc | apply Kd.V_drewN | apply Kd.V_drew)); exact HO_28.out) gb287 (Nat.le_of_eq hg.symm)) hb); replace HO_42 := Aside0.mk (Kd.R_below (Kd.R_elderB (by (with_reducible repeat (first | apply Kd.R_alloc | apply Kd.R_drewN | apply Kd.R_drew)); exact HO_42.out) gb287 (Nat.le_of_eq hg.symm)) hb); replace BK266 := bb BK266 hb; replace BK281 := bb BK281 hb; replace HB := bs hb; clear hb hg; obtain ⟨hnb43, hnc43⟩ := zm NB266_287; obtain ⟨hnb44, hnc44⟩ := zm NB281_287; obtain ⟨hcz45_0, hcz45_1, hcz45_2, hfz45_0, hfz45_1, hfz45_2⟩ := cq3 BK287; obtain ⟨hnb46, hnc46⟩ := zn NB266_281; obtain ⟨hcz47_0, hcz47_1, hcz47_2, hfz47_0, hfz47_1, hfz47_2⟩ := cq3 BK266) | ((with_reducible refine zf 110 rfl ?_); refine g1 (some 51) Try.func110 #[.int .i64 a0, .agg #[.int .i64 a1_0, .int .i64 a1_1, .int .i64 a1_2], .agg #[.int .i64 ((rd_T27 t282 x44_3).f0), .int .i64 ((rd_T27 t282 x44_3).f1), .int .i64 ((rd_T27 t282 x44_3).f2)]] ?_; (with_reducible refine (impl_distance.calls k3 a0 a1_0 a1_1 a1_2 ((rd_T27 t282 x44_3).f0) ((rd_T27 t282 x44_3).f1) ((rd_T27 t282 x44_3).f2) t288 _ A30.out).mono ?_); rintro e w48 ⟨rfl, hb⟩; refine ⟨_, rfl, ?_⟩; replace HO_8 := Aside0.mk (Kd.N_below (by (with_reducible repeat (first | apply Kd.N_alloc | apply Kd.N_drewN | apply Kd.N_drew)); exact (Kd.N_mono (Kd.N_far (p := ⟨gb287, 2, none⟩) (Kd.N_far (p := ⟨gb287, 1, none⟩) (Kd.N_far (p := ⟨gb287, 0, none⟩) (Kd.N_mono HO_8.out (fun k_ hk => (⟨hk, hk.2⟩ : _ ∧ k_ ≠ gb287))) (fun _ hk => hk.2) (.int .i64 ((rd_T27 t282 x44_3).f0))) (fun _ hk => hk.2) (.int .i64 ((rd_T27 t282 x44_3).f1))) (fun _ hk => hk.2) (.int .i64 ((rd_T27 t282 x44_3).f2))) (fun _ h_ => h_.1))) hb); replace HO_10 := Aside0.mk (Kd.R_below (by (with_reducible repeat (first | apply Kd.R_alloc | apply Kd.R_drewN | apply Kd.R_drew)); exact (Kd.R_mono (Kd.R_far (p := ⟨gb287, 2, none⟩) (Kd.R_far (p := ⟨gb287, 1, none⟩) (Kd.R_far (p := ⟨gb287, 0, none⟩) (Kd.R_mono HO_10.out (fun k_ hk => (⟨hk, hk.2⟩ : _ ∧ k_ ≠ gb287))) (fun _ hk => hk.2) (.int .i64 ((rd_T27 t282 x44_3).f0))) (fun _ hk => hk.2) (.int .i64 ((rd_T27 t282 x44_3).f1))) (fun _ hk => hk.2) (.int .i64 ((rd_T27 t282 x44_3).f2))) (fun _ h_ => h_.1))) hb); replace HO_28 := Aside0.mk (Kd.V_below (by (with_reducible repeat (first | apply Kd.V_alloc | apply Kd.V_drewN | apply Kd.V_drew)); exact (Kd.V_mono (Kd.V_far (p := ⟨gb287, 2, none⟩) (Kd.V_far (p := ⟨gb287, 1, none⟩) (Kd.V_far (p := ⟨gb287, 0, none⟩) (Kd.V_mono HO_28.out (fun k_ hk => (⟨hk, hk.2⟩ : _ ∧ k_ ≠ gb287))) (fun _ hk => hk.2) (.int .i64 ((rd_T27 t282 x44_3).f0))) (fun _ hk => hk.2) (.int .i64 ((rd_T27 t282 x44_3).f1))) (fun _ hk => hk.2) (.int .i64 ((rd_T27 t282 x44_3).f2))) (fun _ h_ => h_.1))) hb); replace HO_42 := Aside0.mk (Kd.R_below (by (with_reducible repeat (first | apply Kd.R_alloc | apply Kd.R_drewN | apply Kd.R_drew)); exact (Kd.R_mono (Kd.R_far (p := ⟨gb287, 2, none⟩) (Kd.R_far (p := ⟨gb287, 1, none⟩) (Kd.R_far (p := ⟨gb287, 0, none⟩) (Kd.R_mono HO_42.out (fun k_ hk => (⟨hk, hk.2⟩ : _ ∧ k_ ≠ gb287))) (fun _ hk => hk.2) (.int .i64 ((rd_T27 t282 x44_3).f0))) (fun _ hk => hk.2) (.int .i64 ((rd_T27 t282 x44_3).f1))) (fun _ hk => hk.2) (.int .i64 ((rd_T27 t282 x44_3).f2))) (fun _ h_ => h_.1))) hb); replace BK266 := Aside0.mk (blk_below (g := gb266) (o := .cells #[.int .i64 a1_0, .int .i64 a1_1, .int .i64 a1_2] 27 (0, 0)) (bp) hb); replace BK281 := Aside0.mk (blk_below (g := gb281) (o := .cells #[.int .i64 ((rd_T27 (rd_L2 x8_1 x21_1) x30_2).f0), .int .i64 ((rd_T27 (rd_L2 x8_1 x21_1) x30_2).f1), .int .i64 ((rd_T27 (rd_L2 x8_1 x21_1) x30_2).f2)] 27 (0, 0)) (bp) hb); replace BK287 := Aside0.mk (blk_below (g := gb287) (o := .cells #[.int .i64 ((rd_T27 t282 x44_3).f0), .int .i64 ((rd_T27 t282 x44_3).f1), .int .i64 ((rd_T27 t282 x44_3).f2)] 27 (0, 0)) (bp) hb); replace HB := bs hb; (try clear hb)))
                  go_roundg k3
                  case measure => have := HK1.out; have := HK2.out; have := HK3.out; omega
                  case rel => exact ⟨(x10_3), (wrap64 (x44_3 + 1)), (by first | rfl | (simp; done) | (simp [*]; done)), H', ⟨by have := HK1.out; have := HK2.out; have := HK3.out; omega⟩, ⟨by (with_reducible repeat (first | apply Kd.N_alloc | apply Kd.N_drewN | apply Kd.N_drew)); exact Kd.N_mono HO_8.out (fun _ hk => ⟨hk.1.1, ⟨hk.1.2.1, ⟨hk.1.2.2.1, ⟨hk.1.2.2.2.1, hk.1.2.2.2.2⟩⟩⟩⟩)⟩, ⟨by (with_reducible repeat (first | apply Kd.R_alloc | apply Kd.R_drewN | apply Kd.R_drew)); exact Kd.R_mono HO_10.out (fun _ hk => ⟨hk.1.1, ⟨hk.1.2.1, ⟨hk.1.2.2.1, hk.1.2.2.2⟩⟩⟩)⟩, ⟨by (with_reducible repeat (first | apply Kd.V_alloc | apply Kd.V_drewN | apply Kd.V_drew)); exact Kd.V_mono HO_28.out (fun _ hk => ⟨hk.1.1, ⟨hk.1.2.1, ⟨hk.1.2.2.1, ⟨hk.1.2.2.2.1, ⟨hk.1.2.2.2.2.1, hk.1.2.2.2.2.2⟩⟩⟩⟩⟩)⟩, ⟨by (with_reducible repeat (first | apply Kd.R_alloc | apply Kd.R_drewN | apply Kd.R_drew)); exact Kd.R_mono HO_42.out (fun _ hk => ⟨hk.1.1, ⟨hk.1.2.1, ⟨hk.1.2.2.1, hk.1.2.2.2⟩⟩⟩)⟩, ⟨be BK266⟩, ⟨be BK281⟩, ⟨bl⟩⟩
                ·exact absurd H (by simp)
               ·exact absurd H (by simp)
              ·have c27b0 := decide_eq_false c27
               clear c27
               have H' := Aside0.mk H
               clear H
               go_wp2
               go_roundg k3
               case measure => have := HK1.out; have := HK2.out; have := HK3.out; omega
               case rel => exact ⟨(x10_3), (wrap64 (x30_2 + 1)), (by first | rfl | (simp; done) | (simp [*]; done)), H', ⟨by have := HK1.out; have := HK2.out; have := HK3.out; omega⟩, ⟨by (with_reducible repeat (first | apply Kd.N_alloc | apply Kd.N_drewN | apply Kd.N_drew)); exact Kd.N_mono HO_8.out (fun _ hk => ⟨hk.1, ⟨hk.2.1, hk.2.2.2.1⟩⟩)⟩, ⟨by (with_reducible repeat (first | apply Kd.R_alloc | apply Kd.R_drewN | apply Kd.R_drew)); exact Kd.R_mono HO_10.out (fun _ hk => ⟨hk.1, hk.2.2.1⟩)⟩, ⟨by (with_reducible repeat (first | apply Kd.V_alloc | apply Kd.V_drewN | apply Kd.V_drew)); exact Kd.V_mono HO_28.out (fun _ hk => ⟨hk.1, ⟨hk.2.1, ⟨hk.2.2.1, hk.2.2.2.2.1⟩⟩⟩)⟩, ⟨be BK266⟩, ⟨bl⟩⟩
           ·replace c21 := Bool.eq_false_iff.mpr c21
            subst c21
            have H1 : (some (([] : List (List (S27))), false)) = some (r1, r2) := by rw [if_neg (show ¬ (false = true) by decide)] at H; exact H
            clear H
            have H := H1
            clear H1
            simp only [Option.some.injEq, Prod.mk.injEq] at H
            obtain ⟨rfl, rfl⟩ := H
            have p280 : 0 ≤ (x30_2 : Int) := za
            have q280 : x30_2 < ((rd_L2 x8_1 x21_1).length : Int) := za
            obtain ⟨ad280, e280, hx280_0, hx280_1, hx280_2⟩ := at_T27 (Kd.V_reads' HO_28.out).2.2 x30_2 p280 q280
            cases e280
            replace p280 := eq_true p280
            replace q280 := eq_true q280
            go_wp2_with (first | ((with_reducible refine zg 12 rfl ?_); refine z3 12 27 0 0 0 ?_; intro gb281 hg w49 BK281 hb; have GW281 := sg hg; have NB266_281 := nl hg BK266; replace HO_8 := Aside0.mk (Kd.N_below (Kd.N_elderB (by (with_reducible repeat (first | apply Kd.N_alloc | apply Kd.N_drewN | apply Kd.N_drew)); exact HO_8.out) gb281 (Nat.le_of_eq hg.symm)) hb); replace HO_10 := Aside0.mk (Kd.R_below (Kd.R_elderB (by (with_reducible repeat (first | apply Kd.R_alloc | apply Kd.R_drewN | apply Kd.R_drew)); exact HO_10.out) gb281 (Nat.le_of_eq hg.symm)) hb); replace HO_28 := Aside0.mk (Kd.V_below (Kd.V_elderB (by (with_reducible repeat (first | apply Kd.V_alloc | apply Kd.V_drewN | apply Kd.V_drew)); exact HO_28.out) gb281 (Nat.le_of_eq hg.symm)) hb); replace BK266 := bb BK266 hb; replace HB := bs hb; clear hb hg; obtain ⟨hnb50, hnc50⟩ := zm NB266_281; obtain ⟨hcz51_0, hcz51_1, hcz51_2, hfz51_0, hfz51_1, hfz51_2⟩ := cq3 BK281) | ((with_reducible refine zf 141 rfl ?_); refine g1 (some 37) Try.func141 #[.int .i64 a0, .agg #[.int .i64 ((rd_T27 (rd_L2 x8_1 x21_1) x30_2).f0), .int .i64 ((rd_T27 (rd_L2 x8_1 x21_1) x30_2).f1), .int .i64 ((rd_T27 (rd_L2 x8_1 x21_1) x30_2).f2)], .int .i64 0] ?_; (with_reducible refine (impl_someNeighbours.calls k2 a0 ((rd_T27 (rd_L2 x8_1 x21_1) x30_2).f0) ((rd_T27 (rd_L2 x8_1 x21_1) x30_2).f1) ((rd_T27 (rd_L2 x8_1 x21_1) x30_2).f2) 0 t282 false _ A20.out).mono ?_); rintro e w52 ⟨v283, rfl, ho0, hb⟩; refine ⟨_, rfl, ?_⟩; have HO284 := Aside0.mk (Kd.R_lower (Kd.R_newB (Kd.R_newB (Kd.R_new' (Kd.R_newM (M := fun k_ => (w.heap.size ≤ k_)) ho0 (below_size (bl)) (fun k_ h_ => h_)) (Kd.R_lt (by (with_reducible repeat (first | apply Kd.R_alloc | apply Kd.R_drewN | apply Kd.R_drew)); exact (Kd.R_mono (Kd.R_far (p := ⟨gb281, 2, none⟩) (Kd.R_far (p := ⟨gb281, 1, none⟩) (Kd.R_far (p := ⟨gb281, 0, none⟩) (Kd.R_mono HO_10.out (fun k_ hk => (⟨hk, hk.2⟩ : _ ∧ k_ ≠ gb281))) (fun _ hk => hk.2) (.int .i64 ((rd_T27 (rd_L2 x8_1 x21_1) x30_2).f0))) (fun _ hk => hk.2) (.int .i64 ((rd_T27 (rd_L2 x8_1 x21_1) x30_2).f1))) (fun _ hk => hk.2) (.int .i64 ((rd_T27 (rd_L2 x8_1 x21_1) x30_2).f2))) (fun _ h_ => h_.1))))) (g := gb266) (o := .cells #[.int .i64 a1_0, .int .i64 a1_1, .int .i64 a1_2] 27 (0, 0)) (bp)) (g := gb281) (o := .cells #[.int .i64 ((rd_T27 (rd_L2 x8_1 x21_1) x30_2).f0), .int .i64 ((rd_T27 (rd_L2 x8_1 x21_1) x30_2).f1), .int .i64 ((rd_T27 (rd_L2 x8_1 x21_1) x30_2).f2)] 27 (0, 0)) (bp)) (below_size (bl))); replace HO_8 := Aside0.mk (Kd.N_elder' (by (with_reducible repeat (first | apply Kd.N_alloc | apply Kd.N_drewN | apply Kd.N_drew)); exact (Kd.N_mono (Kd.N_far (p := ⟨gb281, 2, none⟩) (Kd.N_far (p := ⟨gb281, 1, none⟩) (Kd.N_far (p := ⟨gb281, 0, none⟩) (Kd.N_mono HO_8.out (fun k_ hk => (⟨hk, hk.2⟩ : _ ∧ k_ ≠ gb281))) (fun _ hk => hk.2) (.int .i64 ((rd_T27 (rd_L2 x8_1 x21_1) x30_2).f0))) (fun _ hk => hk.2) (.int .i64 ((rd_T27 (rd_L2 x8_1 x21_1) x30_2).f1))) (fun _ hk => hk.2) (.int .i64 ((rd_T27 (rd_L2 x8_1 x21_1) x30_2).f2))) (fun _ h_ => h_.1))) (Kd.R_base ho0) hb); replace HO_10 := Aside0.mk (Kd.R_elder' (by (with_reducible repeat (first | apply Kd.R_alloc | apply Kd.R_drewN | apply Kd.R_drew)); exact (Kd.R_mono (Kd.R_far (p := ⟨gb281, 2, none⟩) (Kd.R_far (p := ⟨gb281, 1, none⟩) (Kd.R_far (p := ⟨gb281, 0, none⟩) (Kd.R_mono HO_10.out (fun k_ hk => (⟨hk, hk.2⟩ : _ ∧ k_ ≠ gb281))) (fun _ hk => hk.2) (.int .i64 ((rd_T27 (rd_L2 x8_1 x21_1) x30_2).f0))) (fun _ hk => hk.2) (.int .i64 ((rd_T27 (rd_L2 x8_1 x21_1) x30_2).f1))) (fun _ hk => hk.2) (.int .i64 ((rd_T27 (rd_L2 x8_1 x21_1) x30_2).f2))) (fun _ h_ => h_.1))) (Kd.R_base ho0) hb); replace HO_28 := Aside0.mk (Kd.V_elder' (by (with_reducible repeat (first | apply Kd.V_alloc | apply Kd.V_drewN | apply Kd.V_drew)); exact (Kd.V_mono (Kd.V_far (p := ⟨gb281, 2, none⟩) (Kd.V_far (p := ⟨gb281, 1, none⟩) (Kd.V_far (p := ⟨gb281, 0, none⟩) (Kd.V_mono HO_28.out (fun k_ hk => (⟨hk, hk.2⟩ : _ ∧ k_ ≠ gb281))) (fun _ hk => hk.2) (.int .i64 ((rd_T27 (rd_L2 x8_1 x21_1) x30_2).f0))) (fun _ hk => hk.2) (.int .i64 ((rd_T27 (rd_L2 x8_1 x21_1) x30_2).f1))) (fun _ hk => hk.2) (.int .i64 ((rd_T27 (rd_L2 x8_1 x21_1) x30_2).f2))) (fun _ h_ => h_.1))) (Kd.R_base ho0) hb); replace BK266 := Aside0.mk (blk_below (g := gb266) (o := .cells #[.int .i64 a1_0, .int .i64 a1_1, .int .i64 a1_2] 27 (0, 0)) (bp) hb); replace BK281 := Aside0.mk (blk_below (g := gb281) (o := .cells #[.int .i64 ((rd_T27 (rd_L2 x8_1 x21_1) x30_2).f0), .int .i64 ((rd_T27 (rd_L2 x8_1 x21_1) x30_2).f1), .int .i64 ((rd_T27 (rd_L2 x8_1 x21_1) x30_2).f2)] 27 (0, 0)) (bp) hb); replace HB := bs hb; (try clear hb); (try clear hb2); (try clear hk); (try clear hi); (try clear ho0)))
            go_ret2
            exact ⟨_, er, by first | exact Kd.S_nil _ _ _ _ _ | exact Kd.N_nil _ _ _ _ _ | exact Kd.V_nil _ _ _ _ _ | exact Kd.Q_nil _ _ _ _ _ | exact Kd.R_nil _ _ _ _ _, bl⟩
          ·exact absurd H (by simp)
         ·exact absurd H (by simp)
        ·have c17b0 := decide_eq_false c17
         clear c17
         replace H := ii H
         rcases H with ⟨c53, H⟩ | ⟨c53, H⟩
         ·have LMc53 := Aside0.mk c53
          clear c53
          obtain ⟨y277, hy277⟩ : ∃ y_ : List (List (S27)), y_ = (x8_1 ++ [x10_2]) := ⟨_, rfl⟩
          replace H : (impl_spheres.l0 k2 a0 y277 a2 (wrap64 (x21_1 + 1)) a1_0 a1_1 a1_2) = some (r1, r2) := by first | exact hy277 ▸ H | exact H
          have Ny277 := Aside0.mk hy277
          clear hy277
          have H' := Aside0.mk H
          clear H
          obtain ⟨Ao55, co55, eo55⟩ := Kd.R_slice HO_10.out
          subst eo55
          go_wp2_with (first | ((with_reducible refine gate_builtin (b := .append) (xs := #[.tmp 60, .tmp 62]) rfl ?_); at_builtin; refine Kd.N_append (Kd.slice 27 k27) (w0 := w) w.heap.size rfl (.tmp 60) (.tmp 62) 89 24 (.slice none 0 0) 24 rfl Try.underlying89 info24 rfl (by decide) (by omega) (.slice (some ad276) x8_1.length co16) x8_1 x10_2 [.slice Ao55 x10_2.length co55] (fun k_ => (w.heap.size ≤ k_) ∧ k_ ≠ gb266) (fun k_ => ((fun k_ => (w.heap.size ≤ k_) ∧ k_ ≠ gb266)) k_ ∧ some k_ ≠ (.slice (some ad276) x8_1.length co16 : Value).ownBlock) rfl rfl ?aP (fun _ hk => hk) ?aF ?aO ?aB ?aS ?aL ?_; (case aP => exact (Kd.FK_slice_mk (Kd.R_reads' (Kd.R_mono (ok' := (fun k_ => ((fun k_ => (w.heap.size ≤ k_) ∧ k_ ≠ gb266)) k_ ∧ some k_ ≠ (.slice (some ad276) x8_1.length co16 : Value).ownBlock)) (Kd.R_apart' (HO_10.out) (Kd.N_typed HO_8.out) (by decide)) (fun k_ hk => ⟨⟨hk.1.1, hk.1.2⟩, hk.2⟩))).2.1 (Kd.R_F (Kd.R_mono (ok' := (fun k_ => ((fun k_ => (w.heap.size ≤ k_) ∧ k_ ≠ gb266)) k_ ∧ some k_ ≠ (.slice (some ad276) x8_1.length co16 : Value).ownBlock)) (Kd.R_apart' (HO_10.out) (Kd.N_typed HO_8.out) (by decide)) (fun k_ hk => ⟨⟨hk.1.1, hk.1.2⟩, hk.2⟩))))); (case aB => exact (bl)); (case aF => exact (fun k_ hk => ⟨(Nat.le_trans (below_size (bl)) hk), Kd.freshB (g := gb266) (o := .cells #[.int .i64 a1_0, .int .i64 a1_1, .int .i64 a1_2] 27 (0, 0)) (be BK266) k_ hk⟩)); (case aO => exact (by (with_reducible repeat (first | apply Kd.N_alloc | apply Kd.N_drewN | apply Kd.N_drew)); exact Kd.N_mono HO_8.out (fun _ hk => ⟨hk.1, hk.2.2⟩))); (case aS => exact (below_size (bl))); (case aL => have := LMc53.out; omega); intro v278 w54 ho hb hg hat; rw [← Ny277.out] at ho; have n0_ := Aside0.mk (Kd.V_afterv (ok := (fun k_ => (w.heap.size ≤ k_) ∧ some k_ ≠ (.slice Ao55 x10_2.length co55 : Value).ownBlock ∧ k_ ≠ gb266)) (by (with_reducible repeat (first | apply Kd.V_alloc | apply Kd.V_drewN | apply Kd.V_drew)); exact Kd.V_mono HO_28.out (fun _ hk => ⟨⟨hk.1, ⟨hk.2.2.1, hk.2.2.2⟩⟩, hk.2.1⟩)) hg hat); have n1_ := Aside0.mk (blk_grown (g := gb266) (o := .cells #[.int .i64 a1_0, .int .i64 a1_1, .int .i64 a1_2] 27 (0, 0)) (be BK266) hg (Kd.N_ne HO_8.out BK266.out (by decide))); have n2_ := Aside0.mk (hb); have n3_ := Aside0.mk (ho); clear HO_28; clear BK266; clear HB; clear HO_8; clear HO_10; have HO_28 := n0_; have BK266 := n1_; have HB := n2_; have HO279 := n3_; clear n0_ n1_ n2_ n3_; clear ho hb hg hat))
          go_roundg k2
          case measure => have := HK1.out; have := HK2.out; omega
          case rel => exact ⟨(y277), (wrap64 (x21_1 + 1)), (by first | rfl | (simp; done) | (simp [*]; done)), H', ⟨by have := HK1.out; have := HK2.out; omega⟩, ⟨by (with_reducible repeat (first | apply Kd.N_alloc | apply Kd.N_drewN | apply Kd.N_drew)); exact HO279.out⟩, ⟨be BK266⟩, ⟨bl⟩⟩
         ·exact absurd H (by simp)
     ·exact absurd H (by simp)
    ·exact absurd H (by simp)
   ·have c11b0 := decide_eq_false c11
    clear c11
    simp only [Option.some.injEq, Prod.mk.injEq] at H
    obtain ⟨rfl, rfl⟩ := H
    go_wp2
    go_ret2
    exact ⟨_, er, by (with_reducible repeat (first | apply Kd.N_alloc | apply Kd.N_drewN | apply Kd.N_drew)); exact Kd.N_mono HO_8.out (fun _ hk => hk.1), bl⟩

/-! ### impl_Ball: function 91 -/
def impl_Ball.f (l0 : List (S27)) : Option ((List (S27))) := (some (([] : List (S27)) : List (S27))).bind fun y292 => (if y292.length + l0.length < 5864062014805 then (some (y292 ++ l0)) else (none))
set_option maxHeartbeats 8000000 in
set_option maxRecDepth 100000 in
theorem impl_Ball.calls (A0 : Option Addr) (c0 : Nat) (l0 : List (S27)) (r : List (S27)) (w : World) (hr0 : Kd.C k27 w A0 l0.length l0) (hc0 : l0.length ≤ c0) (h : impl_Ball.f l0 = some r) :
  Calls Try.prog 91 #[.slice A0 l0.length c0] w fun e w' => ∃ v0_ : Value, e = .returned (v0_) ∧ Kd.R k27 27 w' w.heap.size (fun _ => True) v0_ r ∧ Below w.heap.size w w' := by
 have HR0 := Aside0.mk hr0
 have HC0 := Aside0.mk hc0
 clear hr0 hc0
 have HB := Aside0.mk (Below.refl w.heap.size w)
 unfold impl_Ball.f at h
 have H := h
 clear h
 obtain ⟨y292, hy292⟩ : ∃ y_ : List (S27), y_ = (([] : List (S27))) := ⟨_, rfl⟩
 replace H : (if y292.length + l0.length < 5864062014805 then (some (y292 ++ l0)) else (none)) = some r := by first | exact hy292 ▸ H | exact H
 have Ny292 := Aside0.mk hy292
 clear hy292
 replace H := ii H
 rcases H with ⟨c2, H⟩ | ⟨c2, H⟩
 ·have LMc2 := Aside0.mk c2
  clear c2
  obtain ⟨y295, hy295⟩ : ∃ y_ : List (S27), y_ = (y292 ++ l0) := ⟨_, rfl⟩
  replace H : (some y295) = some r := by first | exact hy295 ▸ H | exact H
  have Ny295 := Aside0.mk hy295
  clear hy295
  obtain rfl := Option.some.inj H
  cases A0 with
  | none =>
   have e0 : l0 = [] := by
    obtain ⟨_, _, h3⟩ := HR0.out
    cases l0 with
    | nil => rfl
    | cons x l => obtain ⟨ad, h4, _⟩ := h3 (by simp); exact absurd h4 (by simp)
   have hnil : ∀ W, (binOp .eql 24 (.slice none 0 c0) (.slice none 0 0)).run Try.prog W = .ok (.bool true) W := fun W => by kernel_rfl
   have e1 : y295 = [] := by rw [Ny295.out, Ny292.out, e0]; rfl
   subst e1
   go_enter Try.func91, Try.ntmps91
   go_wp2
   go_ret
   exact ⟨_, rfl, Kd.R_nil _ _ _ _ _, Below.refl _ _⟩
  | some ad =>
   have hnil : ∀ W, (binOp .eql 24 (.slice (some ad) l0.length c0) (.slice none 0 0)).run Try.prog W = .ok (.bool false) W := fun W => by kernel_rfl
   go_enter Try.func91, Try.ntmps91
   go_wp2_with (first | ((with_reducible refine zg 5 rfl ?_); refine Kd.R_lit k27 _ 27 ?hg (N := 5) ?hd (xs := ([] : List (S27))) (inner := []) (ok := fun _ => True) (okp := fun _ => True) ?hr ?hp (fun _ hk => hk) trivial (Below.refl _ _) (Nat.le_refl _) (by simp) ?_; (case hd => rfl); (case hg => rfl); (case hr => first | (go_simp; done) | (go_simp; rfl)); (case hp => exact (Reps.none _ _)); intro v293 w3 ho4 hb hg_ hnew_; clear hg_ hnew_; (first | rw [← Ny292.out] at ho4 | (simp only [Int.reduceToNat] at ho4; rw [← Ny292.out] at ho4)); have HO294 := Aside0.mk (Kd.R_lower ho4 (below_size (bl))); replace HB := bs hb; clear hb ho4) | ((with_reducible refine gate_builtin (b := .append) (xs := #[.tmp 5, .tmp 6]) rfl ?_); at_builtin; refine Kd.R_append_rows k27 (w0 := w) w.heap.size rfl (.tmp 5) (.tmp 6) 24 27 (.agg #[(.int .i64 0), (.int .i64 0), (.int .i64 0)]) 24 rfl Try.underlying24 info27 rfl (by decide) (by omega) v293 y292 l0 _ _ _ (fun _ => True) (fun _ => False) rfl rfl ?aO ?aR (fun _ _ h => h) (fun _ h => h.elim) ?aF ?aB ?aS ?aL ?_; (case aR => repeat (first | exact (Kd.C_below HR0.out HB.out) | (with_reducible refine Kd.C_alloc ?_ _) | (with_reducible refine Kd.C_drewN ?_ _) | (with_reducible refine Kd.C_drew ?_))); (case aB => exact (bl)); (case aF => exact (fun _ _ => trivial)); (case aO => exact (by (with_reducible repeat (first | apply Kd.R_alloc | apply Kd.R_drewN | apply Kd.R_drew)); exact HO294.out)); (case aS => exact (below_size (bl))); (case aL => have := LMc2.out; omega); intro v296 w5 ho hb hg hat; rw [← Ny295.out] at ho; have n0_ := Aside0.mk (hb); have n1_ := Aside0.mk (ho); clear HB; clear HO294; have HB := n0_; have HO297 := n1_; clear n0_ n1_; clear ho hb hg hat))
   go_ret
   exact ⟨_, er, by (with_reducible repeat (first | apply Kd.R_alloc | apply Kd.R_drewN | apply Kd.R_drew)); exact HO297.out, bl⟩
 ·exact absurd H (by simp)

/-! ### impl_SphereAround: function 20 -/
def impl_SphereAround.f (k : Nat) (a0 : Int) (a1_0 : Int) (a1_1 : Int) (a1_2 : Int) (a2 : Int) : Option ((List (S27)) × Int) := (impl_IsBall.f k a0 a1_0 a1_1 a1_2).bind fun t299 => (if t299 = true then (if a2 < 0 then (some (([] : List (S27)), 2)) else (if a2 > 4 then (some (([] : List (S27)), 2)) else ((impl_spheres.f k a0 a1_0 a1_1 a1_2 a2).bind fun bt300 => (if bt300.2 = true then (if 0 ≤ a2 then (if a2 < (bt300.1.length : Int) then ((impl_Ball.f (rd_L2 bt300.1 a2)).bind fun t305 => (some (t305, 0))) else (none)) else (none)) else (some (([] : List (S27)), 3)))))) else (some (([] : List (S27)), 1)))
set_option maxHeartbeats 8000000 in
set_option maxRecDepth 100000 in
theorem impl_SphereAround.calls (k : Nat) (a0 : Int) (a1_0 : Int) (a1_1 : Int) (a1_2 : Int) (a2 : Int) (r1 : List (S27)) (r2 : Int) (w : World) (h : impl_SphereAround.f k a0 a1_0 a1_1 a1_2 a2 = some (r1, r2)) :
  Calls Try.prog 20 #[.int .i64 a0, .agg #[.int .i64 a1_0, .int .i64 a1_1, .int .i64 a1_2], .int .i64 a2] w fun e w' => ∃ v0_ : Value, e = .returned (.tuple #[v0_, .int .i64 r2]) ∧ Kd.R k27 27 w' w.heap.size (fun _ => True) v0_ r1 ∧ Below w.heap.size w w' := by
 have hu27 := Try.underlying27
 have HB := Aside0.mk (Below.refl w.heap.size w)
 unfold impl_SphereAround.f at h
 have H := h
 clear h
 replace H := zi H
 obtain ⟨t299, A4, H⟩ := H
 try dsimp only at H
 by_cases c5 : t299 = true
 ·subst c5
  rw [if_pos rfl] at H
  replace H := ii H
  rcases H with ⟨c6, H⟩ | ⟨c6, H⟩
  ·have c6b0 := decide_eq_true c6
   clear c6
   simp only [Option.some.injEq, Prod.mk.injEq] at H
   obtain ⟨rfl, rfl⟩ := H
   go_enter Try.func20, Try.ntmps20
   go_wp2_with (first | ((with_reducible refine zg 4 rfl ?_); refine z3 4 27 a1_0 a1_1 a1_2 ?_; intro gb298 hg w7 BK298 hb; have GW298 := sg hg; replace HB := bs hb; clear hb hg; obtain ⟨hcz8_0, hcz8_1, hcz8_2, hfz8_0, hfz8_1, hfz8_2⟩ := cq3 BK298) | ((with_reducible refine zf 65 rfl ?_); refine g1 (some 13) Try.func65 #[.int .i64 a0, .agg #[.int .i64 a1_0, .int .i64 a1_1, .int .i64 a1_2]] ?_; (with_reducible refine (impl_IsBall.calls k a0 a1_0 a1_1 a1_2 true _ A4.out).mono ?_); rintro e w9 ⟨rfl, hb⟩; refine ⟨_, rfl, ?_⟩; replace BK298 := bb BK298 hb; replace HB := bs hb; (try clear hb)))
   go_ret2
   exact ⟨_, er, by first | exact Kd.R_nil _ _ _ _ _ | exact Kd.N_nil _ _ _ _ _ | exact Kd.V_nil _ _ _ _ _ | exact Kd.Q_nil _ _ _ _ _ | exact Kd.S_nil _ _ _ _ _, bl⟩
  ·have c6b0 := decide_eq_false c6
   clear c6
   replace H := ii H
   rcases H with ⟨c10, H⟩ | ⟨c10, H⟩
   ·have c10b0 := decide_eq_true c10
    clear c10
    simp only [Option.some.injEq, Prod.mk.injEq] at H
    obtain ⟨rfl, rfl⟩ := H
    go_enter Try.func20, Try.ntmps20
    go_wp2_with (first | ((with_reducible refine zg 4 rfl ?_); refine z3 4 27 a1_0 a1_1 a1_2 ?_; intro gb298 hg w11 BK298 hb; have GW298 := sg hg; replace HB := bs hb; clear hb hg; obtain ⟨hcz12_0, hcz12_1, hcz12_2, hfz12_0, hfz12_1, hfz12_2⟩ := cq3 BK298) | ((with_reducible refine zf 65 rfl ?_); refine g1 (some 13) Try.func65 #[.int .i64 a0, .agg #[.int .i64 a1_0, .int .i64 a1_1, .int .i64 a1_2]] ?_; (with_reducible refine (impl_IsBall.calls k a0 a1_0 a1_1 a1_2 true _ A4.out).mono ?_); rintro e w13 ⟨rfl, hb⟩; refine ⟨_, rfl, ?_⟩; replace BK298 := bb BK298 hb; replace HB := bs hb; (try clear hb)))
    go_ret2
    exact ⟨_, er, by first | exact Kd.R_nil _ _ _ _ _ | exact Kd.N_nil _ _ _ _ _ | exact Kd.V_nil _ _ _ _ _ | exact Kd.Q_nil _ _ _ _ _ | exact Kd.S_nil _ _ _ _ _, bl⟩
   ·have c10b0 := decide_eq_false c10
    clear c10
    replace H := zi H
    obtain ⟨⟨t300, t303⟩, A14, H⟩ := H
    try dsimp only at H
    by_cases c15 : t303 = true
    ·subst c15
     rw [if_pos rfl] at H
     replace H := ii H
     rcases H with ⟨c16, H⟩ | ⟨c16, H⟩
     ·have c16b0 := decide_eq_true c16
      clear c16
      replace H := ii H
      rcases H with ⟨c17, H⟩ | ⟨c17, H⟩
      ·have c17b0 := decide_eq_true c17
       clear c17
       replace H := zi H
       obtain ⟨t305, A18, H⟩ := H
       try dsimp only at H
       simp only [Option.some.injEq, Prod.mk.injEq] at H
       obtain ⟨rfl, rfl⟩ := H
       go_enter Try.func20, Try.ntmps20
       go_wp2_with (first | ((with_reducible refine zg 4 rfl ?_); refine z3 4 27 a1_0 a1_1 a1_2 ?_; intro gb298 hg w19 BK298 hb; have GW298 := sg hg; replace HB := bs hb; clear hb hg; obtain ⟨hcz20_0, hcz20_1, hcz20_2, hfz20_0, hfz20_1, hfz20_2⟩ := cq3 BK298) | ((with_reducible refine zf 65 rfl ?_); refine g1 (some 13) Try.func65 #[.int .i64 a0, .agg #[.int .i64 a1_0, .int .i64 a1_1, .int .i64 a1_2]] ?_; (with_reducible refine (impl_IsBall.calls k a0 a1_0 a1_1 a1_2 true _ A4.out).mono ?_); rintro e w21 ⟨rfl, hb⟩; refine ⟨_, rfl, ?_⟩; replace BK298 := bb BK298 hb; replace HB := bs hb; (try clear hb); obtain ⟨hcz22_0, hcz22_1, hcz22_2, hfz22_0, hfz22_1, hfz22_2⟩ := cq3 BK298) | ((with_reducible refine zf 90 rfl ?_); refine g1 (some 26) Try.func90 #[.int .i64 a0, .agg #[.int .i64 a1_0, .int .i64 a1_1, .int .i64 a1_2], .int .i64 a2] ?_; (with_reducible refine (impl_spheres.calls k a0 a1_0 a1_1 a1_2 a2 t300 true _ A14.out).mono ?_); rintro e w23 ⟨v301, rfl, ho0, hb⟩; refine ⟨_, rfl, ?_⟩; have HO302 := Aside0.mk (Kd.N_lower (Kd.N_mono (ok' := fun k_ => k_ ≠ gb298) ho0 (fun k_ hk_ => (Kd.freshB (g := gb298) (o := .cells #[.int .i64 a1_0, .int .i64 a1_1, .int .i64 a1_2] 27 (0, 0)) (be BK298) k_ hk_))) (below_size (bl))); replace BK298 := bb BK298 hb; replace HB := bs hb; (try clear hb); (try clear hb2); (try clear hk); (try clear hi); (try clear ho0); obtain ⟨Ao24, co24, eo24⟩ := Kd.N_slice HO302.out; subst eo24; have p304 : 0 ≤ (a2 : Int) := of_decide_eq_true (by first | (with_reducible assumption) | assumption); have q304 : a2 < (t300.length : Int) := of_decide_eq_true (by first | (with_reducible assumption) | assumption); obtain ⟨ad304, A304_0, c304_0, e304, hx304_0, hl304_0, hi304_0⟩ := at_L2 (Kd.N_reads' HO302.out).2.2 a2 p304 q304; cases e304; obtain ⟨ce304, hce304, hMe304, hcc304⟩ := Kd.N_get HO302.out [] a2 p304 (by first | exact q304 | exact of_decide_eq_true (by first | (with_reducible assumption) | assumption) | (have e_ := (Kd.N_reads' HO302.out).1; omega)); obtain ⟨ua304_0, uc304_0, rfl, ul304_0, ge304_0⟩ := Kd.FK_slice_open hMe304; have hv304_0 := hcc304 0 _ rfl; rw [Nat.add_zero, show ((Kd.slice 27 k27)).sz = 1 from rfl, Nat.mul_one] at hv304_0; replace hv304_0 := Option.some.inj (hv304_0.symm.trans hx304_0); injection hv304_0 with hva_ hvn_ hvc_; rw [hva_] at ge304_0; rw [hvc_] at ul304_0; have HL304_0 := Aside0.mk (show Kd.V k27 27 _ w.heap.size _ _ (rd_L2 t300 a2) from Kd.V_mk ul304_0 ge304_0); clear hva_ hvn_ hvc_ ge304_0 ul304_0; clear hcc304 hce304; have HR304_0 := Aside0.mk hi304_0; have HC304_0 := Aside0.mk hl304_0; clear hi304_0 hl304_0; replace p304 := eq_true p304; replace q304 := eq_true q304) | ((with_reducible refine zf 91 rfl ?_); refine g1 (some 35) Try.func91 #[.slice A304_0 (rd_L2 t300 a2).length c304_0] ?_; (with_reducible refine (impl_Ball.calls _ _ (rd_L2 t300 a2) t305 _ ?side1 ?side2 A18.out).mono ?_); (case side1 => repeat (first | exact (by repeat (first | (with_reducible exact HR304_0.out) | (with_reducible refine Kd.C_alloc ?_ _) | (with_reducible refine Kd.C_drewN ?_ _) | (with_reducible refine Kd.C_drew ?_) | exact HR304_0.out)) | (with_reducible refine Kd.C_alloc ?_ _) | (with_reducible refine Kd.C_drewN ?_ _) | (with_reducible refine Kd.C_drew ?_))); (case side2 => exact HC304_0.out); rintro e w25 ⟨v306, rfl, ho0, hb⟩; refine ⟨_, rfl, ?_⟩; have HO307 := Aside0.mk (Kd.R_lower (Kd.R_newB ho0 (g := gb298) (o := .cells #[.int .i64 a1_0, .int .i64 a1_1, .int .i64 a1_2] 27 (0, 0)) (be BK298)) (below_size (bl))); replace HO302 := Aside0.mk (Kd.N_elder' (by (with_reducible repeat (first | apply Kd.N_alloc | apply Kd.N_drewN | apply Kd.N_drew)); exact HO302.out) (Kd.R_base ho0) hb); replace HL304_0 := Aside0.mk (Kd.V_elder' (by (with_reducible repeat (first | apply Kd.V_alloc | apply Kd.V_drewN | apply Kd.V_drew)); exact HL304_0.out) (Kd.R_base ho0) hb); replace BK298 := bb BK298 hb; replace HR304_0 := Aside0.mk (Kd.C_below (by repeat (first | (with_reducible exact HR304_0.out) | (with_reducible refine Kd.C_alloc ?_ _) | (with_reducible refine Kd.C_drewN ?_ _) | (with_reducible refine Kd.C_drew ?_) | exact HR304_0.out)) hb); replace HB := bs hb; (try clear hb); (try clear hb2); (try clear hk); (try clear hi); (try clear ho0)))
       go_ret2
       exact ⟨_, er, by (with_reducible repeat (first | apply Kd.R_alloc | apply Kd.R_drewN | apply Kd.R_drew)); exact Kd.R_mono HO307.out (fun _ hk => trivial), bl⟩
      ·exact absurd H (by simp)
     ·exact absurd H (by simp)
    ·replace c15 := Bool.eq_false_iff.mpr c15
     subst c15
     have H1 : (some (([] : List (S27)), 3)) = some (r1, r2) := by rw [if_neg (show ¬ (false = true) by decide)] at H; exact H
     clear H
     have H := H1
     clear H1
     simp only [Option.some.injEq, Prod.mk.injEq] at H
     obtain ⟨rfl, rfl⟩ := H
     go_enter Try.func20, Try.ntmps20
     go_wp2_with (first | ((with_reducible refine zg 4 rfl ?_); refine z3 4 27 a1_0 a1_1 a1_2 ?_; intro gb298 hg w26 BK298 hb; have GW298 := sg hg; replace HB := bs hb; clear hb hg; obtain ⟨hcz27_0, hcz27_1, hcz27_2, hfz27_0, hfz27_1, hfz27_2⟩ := cq3 BK298) | ((with_reducible refine zf 65 rfl ?_); refine g1 (some 13) Try.func65 #[.int .i64 a0, .agg #[.int .i64 a1_0, .int .i64 a1_1, .int .i64 a1_2]] ?_; (with_reducible refine (impl_IsBall.calls k a0 a1_0 a1_1 a1_2 true _ A4.out).mono ?_); rintro e w28 ⟨rfl, hb⟩; refine ⟨_, rfl, ?_⟩; replace BK298 := bb BK298 hb; replace HB := bs hb; (try clear hb); obtain ⟨hcz29_0, hcz29_1, hcz29_2, hfz29_0, hfz29_1, hfz29_2⟩ := cq3 BK298) | ((with_reducible refine zf 90 rfl ?_); refine g1 (some 26) Try.func90 #[.int .i64 a0, .agg #[.int .i64 a1_0, .int .i64 a1_1, .int .i64 a1_2], .int .i64 a2] ?_; (with_reducible refine (impl_spheres.calls k a0 a1_0 a1_1 a1_2 a2 t300 false _ A14.out).mono ?_); rintro e w30 ⟨v301, rfl, ho0, hb⟩; refine ⟨_, rfl, ?_⟩; have HO302 := Aside0.mk (Kd.N_lower (Kd.N_mono (ok' := fun k_ => k_ ≠ gb298) ho0 (fun k_ hk_ => (Kd.freshB (g := gb298) (o := .cells #[.int .i64 a1_0, .int .i64 a1_1, .int .i64 a1_2] 27 (0, 0)) (be BK298) k_ hk_))) (below_size (bl))); replace BK298 := bb BK298 hb; replace HB := bs hb; (try clear hb); (try clear hb2); (try clear hk); (try clear hi); (try clear ho0)))
     go_ret2
     exact ⟨_, er, by first | exact Kd.R_nil _ _ _ _ _ | exact Kd.N_nil _ _ _ _ _ | exact Kd.V_nil _ _ _ _ _ | exact Kd.Q_nil _ _ _ _ _ | exact Kd.S_nil _ _ _ _ _, bl⟩
 ·replace c5 := Bool.eq_false_iff.mpr c5
  subst c5
  have H1 : (some (([] : List (S27)), 1)) = some (r1, r2) := by rw [if_neg (show ¬ (false = true) by decide)] at H; exact H
  clear H
  have H := H1
  clear H1
  simp only [Option.some.injEq, Prod.mk.injEq] at H
  obtain ⟨rfl, rfl⟩ := H
  go_enter Try.func20, Try.ntmps20
  go_wp2_with (first | ((with_reducible refine zg 4 rfl ?_); refine z3 4 27 a1_0 a1_1 a1_2 ?_; intro gb298 hg w31 BK298 hb; have GW298 := sg hg; replace HB := bs hb; clear hb hg; obtain ⟨hcz32_0, hcz32_1, hcz32_2, hfz32_0, hfz32_1, hfz32_2⟩ := cq3 BK298) | ((with_reducible refine zf 65 rfl ?_); refine g1 (some 13) Try.func65 #[.int .i64 a0, .agg #[.int .i64 a1_0, .int .i64 a1_1, .int .i64 a1_2]] ?_; (with_reducible refine (impl_IsBall.calls k a0 a1_0 a1_1 a1_2 false _ A4.out).mono ?_); rintro e w33 ⟨rfl, hb⟩; refine ⟨_, rfl, ?_⟩; replace BK298 := bb BK298 hb; replace HB := bs hb; (try clear hb)))
  go_ret2
  exact ⟨_, er, by first | exact Kd.R_nil _ _ _ _ _ | exact Kd.N_nil _ _ _ _ _ | exact Kd.V_nil _ _ _ _ _ | exact Kd.Q_nil _ _ _ _ _ | exact Kd.S_nil _ _ _ _ _, bl⟩

/-! ### laws_big: function 21 -/
def laws_big.f (l0 : List Int) : Option (Bool) := some (decide ((l0.length : Int) > 4096))
set_option maxHeartbeats 8000000 in
set_option maxRecDepth 100000 in
theorem laws_big.calls (A0 : Option Addr) (c0 : Nat) (l0 : List Int) (r : Bool) (w : World) (hr0 : Kd.C (Kd.int .u8) w A0 l0.length l0) (hc0 : l0.length ≤ c0) (h : laws_big.f l0 = some r) :
  Calls Try.prog 21 #[.slice A0 l0.length c0] w fun e w' => e = .returned (.bool r) ∧ Drawn0 w w' := by
 have HR0 := Aside0.mk hr0
 have HC0 := Aside0.mk hc0
 clear hr0 hc0
 unfold laws_big.f at h
 have H := h
 clear h
 obtain rfl := Option.some.inj H
 go_enter Try.func21, Try.ntmps21
 go_wp2
 go_ret
 exact zx

/-! ### laws_balls9: function 36 -/
def laws_balls9.l0 : Nat → List (S27) → List (S27) → Int → Option (Bool)
 | 0, _, _, _ => none
 | k + 1, x0, x1, x5 => if x5 < (x0.length : Int) then (if 0 ≤ x5 then (if x5 < (x1.length : Int) then (if (!(((rd_T27 x0 x5).f0) == ((rd_T27 x1 x5).f0)) || (!(((rd_T27 x0 x5).f1) == ((rd_T27 x1 x5).f1)) || (!(((rd_T27 x0 x5).f2) == ((rd_T27 x1 x5).f2))))) = true then (some false) else (laws_balls9.l0 k x0 x1 (wrap64 (x5 + 1)))) else (none)) else (none)) else (some true)
def laws_balls9.f (k : Nat) (l0 : List (S27)) (l1 : List (S27)) : Option (Bool) := if (l0.length : Int) = (l1.length : Int) then (laws_balls9.l0 k l0 l1 0) else (some false)
set_option maxHeartbeats 8000000 in
set_option maxRecDepth 100000 in
theorem laws_balls9.calls (k : Nat) (A0 : Option Addr) (c0 : Nat) (l0 : List (S27)) (A1 : Option Addr) (c1 : Nat) (l1 : List (S27)) (r : Bool) (w : World) (hr0 : Kd.C k27 w A0 l0.length l0) (hc0 : l0.length ≤ c0) (hr1 : Kd.C k27 w A1 l1.length l1) (hc1 : l1.length ≤ c1) (h : laws_balls9.f k l0 l1 = some r) :
  Calls Try.prog 36 #[.slice A0 l0.length c0, .slice A1 l1.length c1] w fun e w' => e = .returned (.bool r) ∧ Drawn0 w w' := by
 have hu27 := Try.underlying27
 have HR0 := Aside0.mk hr0
 have HC0 := Aside0.mk hc0
 clear hr0 hc0
 have HR1 := Aside0.mk hr1
 have HC1 := Aside0.mk hc1
 clear hr1 hc1
 unfold laws_balls9.f at h
 have H := h
 clear h
 replace H := ii H
 rcases H with ⟨c3, H⟩ | ⟨c3, H⟩
 ·obtain ⟨c3b0, c3b1⟩ := zz c3
  have c3b2 : (l0.length == l1.length) = true := by first | simpa using c3 | (simp at c3 ⊢; omega)
  clear c3
  have H' := Aside0.mk H
  clear H
  go_enter Try.func36, Try.ntmps36
  go_wp2
  repeat (go_quiet (fail); try go_wp2)
  go_loopg [5] k (fun kq v5 w' => ∃ (x5_1 : Int), v5 = .int .i64 x5_1 ∧ Aside0 (laws_balls9.l0 kq l0 l1 x5_1 = some r) ∧ Aside0 (kq ≤ k) ∧ Drawn0 w w')
  case atStart => exact ⟨(0), (by first | rfl | (simp; done) | (simp [*]; done)), H', ⟨Nat.le_refl _⟩, by repeat (first | exact Drawn0.refl _ | apply Drawn0.step)⟩
  case round =>
   clear H'
   obtain ⟨x5_1, rfl, HA, HK1, ⟨m1, rfl⟩⟩ := hrel
   cases gk with
   | zero => exact absurd HA.out (by simp [laws_balls9.l0])
   | succ k1 =>
    have H := HA.out
    clear HA
    simp only [laws_balls9.l0] at H
    replace H := ii H
    rcases H with ⟨c4, H⟩ | ⟨c4, H⟩
    ·have c4b0 := decide_eq_true c4
     clear c4
     replace H := ii H
     rcases H with ⟨c5, H⟩ | ⟨c5, H⟩
     ·have c5b0 := decide_eq_true c5
      clear c5
      replace H := ii H
      rcases H with ⟨c6, H⟩ | ⟨c6, H⟩
      ·have c6b0 := decide_eq_true c6
       clear c6
       replace H := ii H
       rcases H with ⟨c7, H⟩ | ⟨c7, H⟩
       ·have c7b0 : (!(((rd_T27 l0 x5_1).f0) == ((rd_T27 l1 x5_1).f0)) || (!(((rd_T27 l0 x5_1).f1) == ((rd_T27 l1 x5_1).f1)) || (!(((rd_T27 l0 x5_1).f2) == ((rd_T27 l1 x5_1).f2))))) = true := c7
        clear c7
        obtain rfl := Option.some.inj H
        have p308 : 0 ≤ (x5_1 : Int) := za
        have q308 : x5_1 < (l0.length : Int) := za
        obtain ⟨ad308, e308, hx308_0, hx308_1, hx308_2⟩ := at_T27 HR0.out x5_1 p308 q308
        cases e308
        replace p308 := eq_true p308
        replace q308 := eq_true q308
        have p309 : 0 ≤ (x5_1 : Int) := za
        have q309 : x5_1 < (l1.length : Int) := za
        obtain ⟨ad309, e309, hx309_0, hx309_1, hx309_2⟩ := at_T27 HR1.out x5_1 p309 q309
        cases e309
        replace p309 := eq_true p309
        replace q309 := eq_true q309
        go_wp2
        repeat (go_quiet (fail); try go_wp2)
        go_ret
        exact zx
       ·have c7b0 : (!(((rd_T27 l0 x5_1).f0) == ((rd_T27 l1 x5_1).f0)) || (!(((rd_T27 l0 x5_1).f1) == ((rd_T27 l1 x5_1).f1)) || (!(((rd_T27 l0 x5_1).f2) == ((rd_T27 l1 x5_1).f2))))) = false := by simpa using c7
        clear c7
        have H' := Aside0.mk H
        clear H
        have p308 : 0 ≤ (x5_1 : Int) := za
        have q308 : x5_1 < (l0.length : Int) := za
        obtain ⟨ad308, e308, hx308_0, hx308_1, hx308_2⟩ := at_T27 HR0.out x5_1 p308 q308
        cases e308
        replace p308 := eq_true p308
        replace q308 := eq_true q308
        have p309 : 0 ≤ (x5_1 : Int) := za
        have q309 : x5_1 < (l1.length : Int) := za
        obtain ⟨ad309, e309, hx309_0, hx309_1, hx309_2⟩ := at_T27 HR1.out x5_1 p309 q309
        cases e309
        replace p309 := eq_true p309
        replace q309 := eq_true q309
        go_wp2
        repeat (go_quiet (fail); try go_wp2)
        go_roundg k1
        case measure => have := HK1.out; omega
        case rel => exact ⟨(wrap64 (x5_1 + 1)), (by first | rfl | (simp; done) | (simp [*]; done)), H', ⟨by have := HK1.out; omega⟩, by repeat (first | exact Drawn0.refl _ | apply Drawn0.step)⟩
      ·exact absurd H (by simp)
     ·exact absurd H (by simp)
    ·have c4b0 := decide_eq_false c4
     clear c4
     obtain rfl := Option.some.inj H
     go_wp2
     repeat (go_quiet (fail); try go_wp2)
     go_ret
     exact zx
 ·obtain ⟨c3b0, c3b1⟩ := zy c3
  have c3b2 : (l0.length == l1.length) = false := by first | simpa using c3 | (simp at c3 ⊢; omega)
  obtain rfl := Option.some.inj H
  go_enter Try.func36, Try.ntmps36
  go_wp2
  repeat (go_quiet (fail); try go_wp2)
  go_ret
  exact zx

end Go.Proofs.Ytpmepopagapeiaa.PFnMedians

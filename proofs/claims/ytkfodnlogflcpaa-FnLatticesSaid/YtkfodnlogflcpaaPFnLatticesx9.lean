-- Printed by the kit's print and repaired by a program of this session.
import Derived.Test.YtkfodnlogflcpaaPFnLatticesx0
import Derived.Test.YtkfodnlogflcpaaPFnLatticesx3
import Derived.Test.YtkfodnlogflcpaaPFnLatticesx4
import Derived.Test.YtkfodnlogflcpaaPFnLatticesx5
import Derived.Test.YtkfodnlogflcpaaPFnLatticesx6
import Derived.Test.YtkfodnlogflcpaaPFnLatticesx8
namespace Go.Proofs.Ytkfodnlogflcpaa.PFnLattices
open Go.RowKit Go.Proofs.YtkfodnlogflcpaaW.PrintWords Go.Proofs.YtkfodnlogflcpaaW.PrintLast Go.Proofs.YtkfodnlogflcpaaW.PrintMore
attribute [local go_sem] max2_int min2_int max_two min_two max_three min_three max_four min_four
set_option linter.unusedVariables false
set_option linter.unusedSimpArgs false

/-! ### impl_hasVector: function 56 -/
def impl_hasVector.f (k : Nat) (a0 : Int) (a1_0 : Int) (a1_1 : Int) (a1_2 : Int) (a2 : Int) (a3 : Int) : Option (Bool) := (impl_power.f k a0 a1_2).bind fun t232 => ((impl_power.f k a0 a1_0).bind fun t233 => (if t232 = 0 then (none) else (if (Int.tmod a3 t232) = 0 then ((impl_mod.f a2 t233).bind fun t234 => ((impl_times.f k (wrap64 (Int.tdiv a3 t232)) a1_1 t233).bind fun t235 => (some (t234 == t235)))) else (some false))))
set_option maxHeartbeats 8000000 in
set_option maxRecDepth 100000 in
theorem impl_hasVector.calls (k : Nat) (a0 : Int) (a1_0 : Int) (a1_1 : Int) (a1_2 : Int) (a2 : Int) (a3 : Int) (r : Bool) (w : World) (h : impl_hasVector.f k a0 a1_0 a1_1 a1_2 a2 a3 = some r) :
  Calls Try.prog 56 #[.int .i64 a0, .agg #[.int .i64 a1_0, .int .i64 a1_1, .int .i64 a1_2], .int .i64 a2, .int .i64 a3] w fun e w' => e = .returned (.bool r) ∧ Below w.heap.size w w' := by
 have hu27 := Try.underlying27
 have HB := Aside0.mk (Below.refl w.heap.size w)
 unfold impl_hasVector.f at h
 have H := h
 clear h
 replace H := zi H
 obtain ⟨t232, A5, H⟩ := H
 try dsimp only at H
 replace H := zi H
 obtain ⟨t233, A6, H⟩ := H
 try dsimp only at H
 replace H := ii H
 rcases H with ⟨c7, H⟩ | ⟨c7, H⟩
 ·exact absurd H (by simp)
 ·obtain ⟨c7b0, c7b1⟩ := zy c7
  replace H := ii H
  rcases H with ⟨c8, H⟩ | ⟨c8, H⟩
  ·obtain ⟨c8b0, c8b1⟩ := zz c8
   clear c8
   replace H := zi H
   obtain ⟨t234, A9, H⟩ := H
   try dsimp only at H
   replace H := zi H
   obtain ⟨t235, A10, H⟩ := H
   try dsimp only at H
   obtain rfl := Option.some.inj H
   go_enter Try.func56, Try.ntmps56
   go_wp2_with (first | ((with_reducible refine zg 5 rfl ?_); refine z3 5 27 a1_0 a1_1 a1_2 ?_; intro gb231 hg w11 BK231 hb; have GW231 := sg hg; replace HB := bs hb; clear hb hg; obtain ⟨hcz12_0, hcz12_1, hcz12_2, hfz12_0, hfz12_1, hfz12_2⟩ := cq3 BK231) | (go_at_call 37; (with_reducible refine (impl_power.calls k a0 a1_2 t232 _ A5.out).mono ?_); rintro e w' ⟨rfl, ⟨nd, rfl⟩⟩; (try first | exact zd | exact ze)) | (go_at_call 37; (with_reducible refine (impl_power.calls k a0 a1_0 t233 _ A6.out).mono ?_); rintro e w' ⟨rfl, ⟨nd, rfl⟩⟩; (try first | exact zd | exact ze)) | (go_at_call 38; (with_reducible refine (impl_mod.calls a2 t233 t234 _ A9.out).mono ?_); rintro e w' ⟨rfl, ⟨nd, rfl⟩⟩; (try first | exact zd | exact ze)) | (go_at_call 39; (with_reducible refine (impl_times.calls k (wrap64 (Int.tdiv a3 t232)) a1_1 t233 t235 _ A10.out).mono ?_); rintro e w' ⟨rfl, ⟨nd, rfl⟩⟩; (try first | exact zd | exact ze)))
   repeat (go_quiet (first | (go_at_call 37; (with_reducible refine (impl_power.calls k a0 a1_2 t232 _ A5.out).mono ?_); rintro e w' ⟨rfl, ⟨nd, rfl⟩⟩; (try first | exact zd | exact ze)) | (go_at_call 37; (with_reducible refine (impl_power.calls k a0 a1_0 t233 _ A6.out).mono ?_); rintro e w' ⟨rfl, ⟨nd, rfl⟩⟩; (try first | exact zd | exact ze)) | (go_at_call 38; (with_reducible refine (impl_mod.calls a2 t233 t234 _ A9.out).mono ?_); rintro e w' ⟨rfl, ⟨nd, rfl⟩⟩; (try first | exact zd | exact ze)) | (go_at_call 39; (with_reducible refine (impl_times.calls k (wrap64 (Int.tdiv a3 t232)) a1_1 t233 t235 _ A10.out).mono ?_); rintro e w' ⟨rfl, ⟨nd, rfl⟩⟩; (try first | exact zd | exact ze))); try go_wp2_with (first | ((with_reducible refine zg 5 rfl ?_); refine z3 5 27 a1_0 a1_1 a1_2 ?_; intro gb231 hg w11 BK231 hb; have GW231 := sg hg; replace HB := bs hb; clear hb hg; obtain ⟨hcz12_0, hcz12_1, hcz12_2, hfz12_0, hfz12_1, hfz12_2⟩ := cq3 BK231) | (go_at_call 37; (with_reducible refine (impl_power.calls k a0 a1_2 t232 _ A5.out).mono ?_); rintro e w' ⟨rfl, ⟨nd, rfl⟩⟩; (try first | exact zd | exact ze)) | (go_at_call 37; (with_reducible refine (impl_power.calls k a0 a1_0 t233 _ A6.out).mono ?_); rintro e w' ⟨rfl, ⟨nd, rfl⟩⟩; (try first | exact zd | exact ze)) | (go_at_call 38; (with_reducible refine (impl_mod.calls a2 t233 t234 _ A9.out).mono ?_); rintro e w' ⟨rfl, ⟨nd, rfl⟩⟩; (try first | exact zd | exact ze)) | (go_at_call 39; (with_reducible refine (impl_times.calls k (wrap64 (Int.tdiv a3 t232)) a1_1 t233 t235 _ A10.out).mono ?_); rintro e w' ⟨rfl, ⟨nd, rfl⟩⟩; (try first | exact zd | exact ze))))
   go_ret
   exact ⟨er, bl⟩
  ·obtain ⟨c8b0, c8b1⟩ := zy c8
   obtain rfl := Option.some.inj H
   go_enter Try.func56, Try.ntmps56
   go_wp2_with (first | ((with_reducible refine zg 5 rfl ?_); refine z3 5 27 a1_0 a1_1 a1_2 ?_; intro gb231 hg w13 BK231 hb; have GW231 := sg hg; replace HB := bs hb; clear hb hg; obtain ⟨hcz14_0, hcz14_1, hcz14_2, hfz14_0, hfz14_1, hfz14_2⟩ := cq3 BK231) | (go_at_call 37; (with_reducible refine (impl_power.calls k a0 a1_2 t232 _ A5.out).mono ?_); rintro e w' ⟨rfl, ⟨nd, rfl⟩⟩; (try first | exact zd | exact ze)) | (go_at_call 37; (with_reducible refine (impl_power.calls k a0 a1_0 t233 _ A6.out).mono ?_); rintro e w' ⟨rfl, ⟨nd, rfl⟩⟩; (try first | exact zd | exact ze)))
   repeat (go_quiet (first | (go_at_call 37; (with_reducible refine (impl_power.calls k a0 a1_2 t232 _ A5.out).mono ?_); rintro e w' ⟨rfl, ⟨nd, rfl⟩⟩; (try first | exact zd | exact ze)) | (go_at_call 37; (with_reducible refine (impl_power.calls k a0 a1_0 t233 _ A6.out).mono ?_); rintro e w' ⟨rfl, ⟨nd, rfl⟩⟩; (try first | exact zd | exact ze))); try go_wp2_with (first | ((with_reducible refine zg 5 rfl ?_); refine z3 5 27 a1_0 a1_1 a1_2 ?_; intro gb231 hg w13 BK231 hb; have GW231 := sg hg; replace HB := bs hb; clear hb hg; obtain ⟨hcz14_0, hcz14_1, hcz14_2, hfz14_0, hfz14_1, hfz14_2⟩ := cq3 BK231) | (go_at_call 37; (with_reducible refine (impl_power.calls k a0 a1_2 t232 _ A5.out).mono ?_); rintro e w' ⟨rfl, ⟨nd, rfl⟩⟩; (try first | exact zd | exact ze)) | (go_at_call 37; (with_reducible refine (impl_power.calls k a0 a1_0 t233 _ A6.out).mono ?_); rintro e w' ⟨rfl, ⟨nd, rfl⟩⟩; (try first | exact zd | exact ze))))
   go_ret
   exact ⟨er, bl⟩

/-! ### impl_HoldsVector: function 15 -/
def impl_HoldsVector.f (k : Nat) (a0 : Int) (a1_0 : Int) (a1_1 : Int) (a1_2 : Int) (a2 : Int) (a3 : Int) : Option (Bool × Int) := (impl_IsLattice.f k a0 a1_0 a1_1 a1_2).bind fun t237 => (if t237 = true then ((impl_within.f k 1000000 (([a2, a3] : List Int))).bind fun t241 => (if t241 = true then ((impl_hasVector.f k a0 a1_0 a1_1 a1_2 a2 a3).bind fun t242 => (some (t242, 0))) else (some (false, 2)))) else (some (false, 1)))
set_option maxHeartbeats 8000000 in
set_option maxRecDepth 100000 in
theorem impl_HoldsVector.calls (k : Nat) (a0 : Int) (a1_0 : Int) (a1_1 : Int) (a1_2 : Int) (a2 : Int) (a3 : Int) (r1 : Bool) (r2 : Int) (w : World) (h : impl_HoldsVector.f k a0 a1_0 a1_1 a1_2 a2 a3 = some (r1, r2)) :
  Calls Try.prog 15 #[.int .i64 a0, .agg #[.int .i64 a1_0, .int .i64 a1_1, .int .i64 a1_2], .int .i64 a2, .int .i64 a3] w fun e w' => e = .returned (.tuple #[.bool r1, .int .i64 r2]) ∧ Below w.heap.size w w' := by
 have hu27 := Try.underlying27
 have HB := Aside0.mk (Below.refl w.heap.size w)
 unfold impl_HoldsVector.f at h
 have H := h
 clear h
 replace H := zi H
 obtain ⟨t237, A5, H⟩ := H
 try dsimp only at H
 by_cases c6 : t237 = true
 ·subst c6
  rw [if_pos rfl] at H
  obtain ⟨y238, hy238⟩ : ∃ y_ : List Int, y_ = (([a2, a3] : List Int)) := ⟨_, rfl⟩
  replace H : ((impl_within.f k 1000000 y238).bind fun t241 => (if t241 = true then ((impl_hasVector.f k a0 a1_0 a1_1 a1_2 a2 a3).bind fun t242 => (some (t242, 0))) else (some (false, 2)))) = some (r1, r2) := by first | exact hy238 ▸ H | exact H
  have Ny238 := Aside0.mk hy238
  clear hy238
  replace H := zi H
  obtain ⟨t241, A7, H⟩ := H
  try dsimp only at H
  by_cases c8 : t241 = true
  ·subst c8
   rw [if_pos rfl] at H
   replace H := zi H
   obtain ⟨t242, A9, H⟩ := H
   try dsimp only at H
   simp only [Option.some.injEq, Prod.mk.injEq] at H
   obtain ⟨rfl, rfl⟩ := H
   go_enter Try.func15, Try.ntmps15
   go_wp2_with (first | ((with_reducible refine zg 5 rfl ?_); refine z3 5 27 a1_0 a1_1 a1_2 ?_; intro gb236 hg w10 BK236 hb; have GW236 := sg hg; replace HB := bs hb; clear hb hg; obtain ⟨hcz11_0, hcz11_1, hcz11_2, hfz11_0, hfz11_1, hfz11_2⟩ := cq3 BK236) | ((with_reducible refine zf 18 rfl ?_); refine g1 (some 13) Try.func18 #[.int .i64 a0, .agg #[.int .i64 a1_0, .int .i64 a1_1, .int .i64 a1_2]] ?_; (with_reducible refine (impl_IsLattice.calls k a0 a1_0 a1_1 a1_2 true _ A5.out).mono ?_); rintro e w12 ⟨rfl, hb⟩; refine ⟨_, rfl, ?_⟩; replace BK236 := bb BK236 hb; replace HB := bs hb; (try clear hb)) | ((with_reducible refine zg 18 rfl ?_); refine Kd.R_lit (Kd.int .i64) _ 2 ?hg (N := 18) ?hd (xs := ([a2, a3] : List Int)) (inner := [.int .i64 a2, .int .i64 a3]) (ok := fun _ => True) (okp := fun _ => True) ?hr ?hp (fun _ hk => hk) trivial (Below.refl _ _) (Nat.le_refl _) (by simp) ?_; (case hd => rfl); (case hg => rfl); (case hr => first | (go_simp; done) | (go_simp; rfl)); (case hp => exact (Reps.one (show Kd.M (Kd.int .i64) _ _ _ a2 [.int .i64 a2] from rfl) (Reps.one (show Kd.M (Kd.int .i64) _ _ _ a3 [.int .i64 a3] from rfl) (Reps.none _ _)))); intro v239 w13 ho14 hb hg_ hnew_; clear hg_ hnew_; (first | rw [← Ny238.out] at ho14 | (simp only [Int.reduceToNat] at ho14; rw [← Ny238.out] at ho14)); have HO240 := Aside0.mk (Kd.R_lower ho14 (below_size (bl))); replace BK236 := bb BK236 hb; replace HB := bs hb; clear hb ho14; obtain ⟨Ao15, co15, eo15⟩ := Kd.R_slice HO240.out; subst eo15) | ((with_reducible refine zf 49 rfl ?_); refine g1 (some 19) Try.func49 #[.int .i64 1000000, .slice Ao15 y238.length co15] ?_; (with_reducible refine (impl_within.calls k 1000000 _ _ y238 true _ ?side1 ?side2 A7.out).mono ?_); (case side1 => repeat (first | exact (Kd.R_reads' HO240.out).2.2 | (with_reducible refine Kd.C_alloc ?_ _) | (with_reducible refine Kd.C_drewN ?_ _) | (with_reducible refine Kd.C_drew ?_))); (case side2 => exact (Kd.R_reads' HO240.out).2.1); rintro e w' ⟨rfl, ⟨nd, rfl⟩⟩; refine ⟨_, rfl, ?_⟩; obtain ⟨hcz16_0, hcz16_1, hcz16_2, hfz16_0, hfz16_1, hfz16_2⟩ := cq3 BK236) | ((with_reducible refine zf 56 rfl ?_); refine g1 (some 25) Try.func56 #[.int .i64 a0, .agg #[.int .i64 a1_0, .int .i64 a1_1, .int .i64 a1_2], .int .i64 a2, .int .i64 a3] ?_; (with_reducible refine (impl_hasVector.calls k a0 a1_0 a1_1 a1_2 a2 a3 t242 _ A9.out).mono ?_); rintro e w17 ⟨rfl, hb⟩; refine ⟨_, rfl, ?_⟩; replace HO240 := Aside0.mk (Kd.R_below (by (with_reducible repeat (first | apply Kd.R_alloc | apply Kd.R_drewN | apply Kd.R_drew)); exact HO240.out) hb); replace BK236 := bb BK236 hb; replace HB := bs hb; (try clear hb)))
   go_ret2
   exact ⟨er, bl⟩
  ·replace c8 := Bool.eq_false_iff.mpr c8
   subst c8
   have H1 : (some (false, 2)) = some (r1, r2) := by rw [if_neg (show ¬ (false = true) by decide)] at H; exact H
   clear H
   have H := H1
   clear H1
   simp only [Option.some.injEq, Prod.mk.injEq] at H
   obtain ⟨rfl, rfl⟩ := H
   go_enter Try.func15, Try.ntmps15
   go_wp2_with (first | ((with_reducible refine zg 5 rfl ?_); refine z3 5 27 a1_0 a1_1 a1_2 ?_; intro gb236 hg w18 BK236 hb; have GW236 := sg hg; replace HB := bs hb; clear hb hg; obtain ⟨hcz19_0, hcz19_1, hcz19_2, hfz19_0, hfz19_1, hfz19_2⟩ := cq3 BK236) | ((with_reducible refine zf 18 rfl ?_); refine g1 (some 13) Try.func18 #[.int .i64 a0, .agg #[.int .i64 a1_0, .int .i64 a1_1, .int .i64 a1_2]] ?_; (with_reducible refine (impl_IsLattice.calls k a0 a1_0 a1_1 a1_2 true _ A5.out).mono ?_); rintro e w20 ⟨rfl, hb⟩; refine ⟨_, rfl, ?_⟩; replace BK236 := bb BK236 hb; replace HB := bs hb; (try clear hb)) | ((with_reducible refine zg 18 rfl ?_); refine Kd.R_lit (Kd.int .i64) _ 2 ?hg (N := 18) ?hd (xs := ([a2, a3] : List Int)) (inner := [.int .i64 a2, .int .i64 a3]) (ok := fun _ => True) (okp := fun _ => True) ?hr ?hp (fun _ hk => hk) trivial (Below.refl _ _) (Nat.le_refl _) (by simp) ?_; (case hd => rfl); (case hg => rfl); (case hr => first | (go_simp; done) | (go_simp; rfl)); (case hp => exact (Reps.one (show Kd.M (Kd.int .i64) _ _ _ a2 [.int .i64 a2] from rfl) (Reps.one (show Kd.M (Kd.int .i64) _ _ _ a3 [.int .i64 a3] from rfl) (Reps.none _ _)))); intro v239 w21 ho22 hb hg_ hnew_; clear hg_ hnew_; (first | rw [← Ny238.out] at ho22 | (simp only [Int.reduceToNat] at ho22; rw [← Ny238.out] at ho22)); have HO240 := Aside0.mk (Kd.R_lower ho22 (below_size (bl))); replace BK236 := bb BK236 hb; replace HB := bs hb; clear hb ho22; obtain ⟨Ao23, co23, eo23⟩ := Kd.R_slice HO240.out; subst eo23) | ((with_reducible refine zf 49 rfl ?_); refine g1 (some 19) Try.func49 #[.int .i64 1000000, .slice Ao23 y238.length co23] ?_; (with_reducible refine (impl_within.calls k 1000000 _ _ y238 false _ ?side1 ?side2 A7.out).mono ?_); (case side1 => repeat (first | exact (Kd.R_reads' HO240.out).2.2 | (with_reducible refine Kd.C_alloc ?_ _) | (with_reducible refine Kd.C_drewN ?_ _) | (with_reducible refine Kd.C_drew ?_))); (case side2 => exact (Kd.R_reads' HO240.out).2.1); rintro e w' ⟨rfl, ⟨nd, rfl⟩⟩; refine ⟨_, rfl, ?_⟩))
   go_ret2
   exact ⟨er, bl⟩
 ·replace c6 := Bool.eq_false_iff.mpr c6
  subst c6
  have H1 : (some (false, 1)) = some (r1, r2) := by rw [if_neg (show ¬ (false = true) by decide)] at H; exact H
  clear H
  have H := H1
  clear H1
  simp only [Option.some.injEq, Prod.mk.injEq] at H
  obtain ⟨rfl, rfl⟩ := H
  go_enter Try.func15, Try.ntmps15
  go_wp2_with (first | ((with_reducible refine zg 5 rfl ?_); refine z3 5 27 a1_0 a1_1 a1_2 ?_; intro gb236 hg w24 BK236 hb; have GW236 := sg hg; replace HB := bs hb; clear hb hg; obtain ⟨hcz25_0, hcz25_1, hcz25_2, hfz25_0, hfz25_1, hfz25_2⟩ := cq3 BK236) | ((with_reducible refine zf 18 rfl ?_); refine g1 (some 13) Try.func18 #[.int .i64 a0, .agg #[.int .i64 a1_0, .int .i64 a1_1, .int .i64 a1_2]] ?_; (with_reducible refine (impl_IsLattice.calls k a0 a1_0 a1_1 a1_2 false _ A5.out).mono ?_); rintro e w26 ⟨rfl, hb⟩; refine ⟨_, rfl, ?_⟩; replace BK236 := bb BK236 hb; replace HB := bs hb; (try clear hb)))
  go_ret2
  exact ⟨er, bl⟩

/-! ### impl_IndexOf: function 16 -/
def impl_IndexOf.f (k : Nat) (a0 : Int) (a1_0 : Int) (a1_1 : Int) (a1_2 : Int) : Option (Int × Int) := (impl_IsLattice.f k a0 a1_0 a1_1 a1_2).bind fun t244 => (if t244 = true then (some (wrap64 (a1_0 + a1_2), 0)) else (some (0, 1)))
set_option maxHeartbeats 8000000 in
set_option maxRecDepth 100000 in
theorem impl_IndexOf.calls (k : Nat) (a0 : Int) (a1_0 : Int) (a1_1 : Int) (a1_2 : Int) (r1 : Int) (r2 : Int) (w : World) (h : impl_IndexOf.f k a0 a1_0 a1_1 a1_2 = some (r1, r2)) :
  Calls Try.prog 16 #[.int .i64 a0, .agg #[.int .i64 a1_0, .int .i64 a1_1, .int .i64 a1_2]] w fun e w' => e = .returned (.tuple #[.int .i64 r1, .int .i64 r2]) ∧ Below w.heap.size w w' := by
 have hu27 := Try.underlying27
 have HB := Aside0.mk (Below.refl w.heap.size w)
 unfold impl_IndexOf.f at h
 have H := h
 clear h
 replace H := zi H
 obtain ⟨t244, A3, H⟩ := H
 try dsimp only at H
 by_cases c4 : t244 = true
 ·subst c4
  rw [if_pos rfl] at H
  simp only [Option.some.injEq, Prod.mk.injEq] at H
  obtain ⟨rfl, rfl⟩ := H
  go_enter Try.func16, Try.ntmps16
  go_wp2_with (first | ((with_reducible refine zg 3 rfl ?_); refine z3 3 27 a1_0 a1_1 a1_2 ?_; intro gb243 hg w5 BK243 hb; have GW243 := sg hg; replace HB := bs hb; clear hb hg; obtain ⟨hcz6_0, hcz6_1, hcz6_2, hfz6_0, hfz6_1, hfz6_2⟩ := cq3 BK243) | ((with_reducible refine zf 18 rfl ?_); refine g1 (some 8) Try.func18 #[.int .i64 a0, .agg #[.int .i64 a1_0, .int .i64 a1_1, .int .i64 a1_2]] ?_; (with_reducible refine (impl_IsLattice.calls k a0 a1_0 a1_1 a1_2 true _ A3.out).mono ?_); rintro e w7 ⟨rfl, hb⟩; refine ⟨_, rfl, ?_⟩; replace BK243 := bb BK243 hb; replace HB := bs hb; (try clear hb); obtain ⟨hcz8_0, hcz8_1, hcz8_2, hfz8_0, hfz8_1, hfz8_2⟩ := cq3 BK243))
  go_ret2
  exact ⟨er, bl⟩
 ·replace c4 := Bool.eq_false_iff.mpr c4
  subst c4
  have H1 : (some (0, 1)) = some (r1, r2) := by rw [if_neg (show ¬ (false = true) by decide)] at H; exact H
  clear H
  have H := H1
  clear H1
  simp only [Option.some.injEq, Prod.mk.injEq] at H
  obtain ⟨rfl, rfl⟩ := H
  go_enter Try.func16, Try.ntmps16
  go_wp2_with (first | ((with_reducible refine zg 3 rfl ?_); refine z3 3 27 a1_0 a1_1 a1_2 ?_; intro gb243 hg w9 BK243 hb; have GW243 := sg hg; replace HB := bs hb; clear hb hg; obtain ⟨hcz10_0, hcz10_1, hcz10_2, hfz10_0, hfz10_1, hfz10_2⟩ := cq3 BK243) | ((with_reducible refine zf 18 rfl ?_); refine g1 (some 8) Try.func18 #[.int .i64 a0, .agg #[.int .i64 a1_0, .int .i64 a1_1, .int .i64 a1_2]] ?_; (with_reducible refine (impl_IsLattice.calls k a0 a1_0 a1_1 a1_2 false _ A3.out).mono ?_); rintro e w11 ⟨rfl, hb⟩; refine ⟨_, rfl, ?_⟩; replace BK243 := bb BK243 hb; replace HB := bs hb; (try clear hb)))
  go_ret2
  exact ⟨er, bl⟩

/-! ### impl_ValuationOf: function 17 -/
def impl_ValuationOf.j0 : Nat → Int → Int → Int → Bool → Option (Int × Int)
 | 0, _, _, _, _ => none
 | k + 1, x0, x1, x2, x18 => if x18 = true then (some (0, 5)) else ((impl_valuation.f k x0 x1).bind fun t250 => ((impl_valuation.f k x0 x2).bind fun t251 => (some (wrap64 (t250 - t251), 0))))
def impl_ValuationOf.f (k : Nat) (a0 : Int) (a1 : Int) (a2 : Int) : Option (Int × Int) := (impl_isPrime.f a0).bind fun t245 => (if t245 = true then ((impl_within.f k 100000000000000000 (([a1, a2] : List Int))).bind fun t249 => (if t249 = true then (if a1 = 0 then (impl_ValuationOf.j0 k a0 a1 a2 true) else (impl_ValuationOf.j0 k a0 a1 a2 (a2 == 0))) else (some (0, 2)))) else (some (0, 1)))
set_option maxHeartbeats 8000000 in
set_option maxRecDepth 100000 in
theorem impl_ValuationOf.calls (k : Nat) (a0 : Int) (a1 : Int) (a2 : Int) (r1 : Int) (r2 : Int) (w : World) (h : impl_ValuationOf.f k a0 a1 a2 = some (r1, r2)) :
  Calls Try.prog 17 #[.int .i64 a0, .int .i64 a1, .int .i64 a2] w fun e w' => e = .returned (.tuple #[.int .i64 r1, .int .i64 r2]) ∧ Below w.heap.size w w' := by
 have HB := Aside0.mk (Below.refl w.heap.size w)
 unfold impl_ValuationOf.f at h
 have H := h
 clear h
 replace H := zi H
 obtain ⟨t245, A4, H⟩ := H
 try dsimp only at H
 by_cases c5 : t245 = true
 ·subst c5
  rw [if_pos rfl] at H
  obtain ⟨y246, hy246⟩ : ∃ y_ : List Int, y_ = (([a1, a2] : List Int)) := ⟨_, rfl⟩
  replace H : ((impl_within.f k 100000000000000000 y246).bind fun t249 => (if t249 = true then (if a1 = 0 then (impl_ValuationOf.j0 k a0 a1 a2 true) else (impl_ValuationOf.j0 k a0 a1 a2 (a2 == 0))) else (some (0, 2)))) = some (r1, r2) := by first | exact hy246 ▸ H | exact H
  have Ny246 := Aside0.mk hy246
  clear hy246
  replace H := zi H
  obtain ⟨t249, A6, H⟩ := H
  try dsimp only at H
  by_cases c7 : t249 = true
  ·subst c7
   rw [if_pos rfl] at H
   have HC8 := Aside0.mk H
   clear H
   go_enter Try.func17, Try.ntmps17
   go_upto_region 5 with (first | ((with_reducible refine zf 48 rfl ?_); refine g1 (some 10) Try.func48 #[.int .i64 a0] ?_; (with_reducible refine (impl_isPrime.calls a0 true _ A4.out).mono ?_); rintro e w' ⟨rfl, ⟨nd, rfl⟩⟩; refine ⟨_, rfl, ?_⟩) | ((with_reducible refine zg 15 rfl ?_); refine Kd.R_lit (Kd.int .i64) _ 2 ?hg (N := 15) ?hd (xs := ([a1, a2] : List Int)) (inner := [.int .i64 a1, .int .i64 a2]) (ok := fun _ => True) (okp := fun _ => True) ?hr ?hp (fun _ hk => hk) trivial (Below.refl _ _) (Nat.le_refl _) (by simp) ?_; (case hd => rfl); (case hg => rfl); (case hr => first | (go_simp; done) | (go_simp; rfl)); (case hp => exact (Reps.one (show Kd.M (Kd.int .i64) _ _ _ a1 [.int .i64 a1] from rfl) (Reps.one (show Kd.M (Kd.int .i64) _ _ _ a2 [.int .i64 a2] from rfl) (Reps.none _ _)))); intro v247 w9 ho10 hb hg_ hnew_; clear hg_ hnew_; (first | rw [← Ny246.out] at ho10 | (simp only [Int.reduceToNat] at ho10; rw [← Ny246.out] at ho10)); have HO248 := Aside0.mk (Kd.R_lower ho10 (below_size (bl))); replace HB := bs hb; clear hb ho10; obtain ⟨Ao11, co11, eo11⟩ := Kd.R_slice HO248.out; subst eo11) | ((with_reducible refine zf 49 rfl ?_); refine g1 (some 16) Try.func49 #[.int .i64 100000000000000000, .slice Ao11 y246.length co11] ?_; (with_reducible refine (impl_within.calls k 100000000000000000 _ _ y246 true _ ?side1 ?side2 A6.out).mono ?_); (case side1 => repeat (first | exact (Kd.R_reads' HO248.out).2.2 | (with_reducible refine Kd.C_alloc ?_ _) | (with_reducible refine Kd.C_drewN ?_ _) | (with_reducible refine Kd.C_drew ?_))); (case side2 => exact (Kd.R_reads' HO248.out).2.1); rintro e w' ⟨rfl, ⟨nd, rfl⟩⟩; refine ⟨_, rfl, ?_⟩))
   (try simp only [Act.put, zq, zr, zt])
   go_cut [18] (fun v18 wc => ∃ (kq : Nat) (x18_7 : Bool), v18 = .bool x18_7 ∧ Aside0 (impl_ValuationOf.j0 kq a0 a1 a2 x18_7 = some (r1, r2)) ∧ Aside0 (kq ≤ k) ∧ Aside0 (Below w.heap.size w wc))
   case first =>
    have H := HC8.out
    clear HC8
    replace H := ii H
    rcases H with ⟨c12, H⟩ | ⟨c12, H⟩
    ·obtain ⟨c12b0, c12b1⟩ := zz c12
     clear c12
     (first | rw [c12b0] | (simp only [i64_w, i32_w]; rw [c12b0]) | skip)
     have H' := Aside0.mk H
     clear H
     go_wp2
     go_meet
     case rel => exact ⟨_, (true), (by first | rfl | (simp; done) | (simp [*]; done)), H', ⟨by first | omega | exact Nat.le_refl _⟩, ⟨bl⟩⟩
    ·obtain ⟨c12b0, c12b1⟩ := zy c12
     (first | rw [c12b0] | (simp only [i64_w, i32_w]; rw [c12b0]) | skip)
     have H' := Aside0.mk H
     clear H
     go_wp2
     go_meet
     case rel => exact ⟨_, ((a2 == 0)), (by first | rfl | (simp; done) | (simp [*]; done)), H', ⟨by first | omega | exact Nat.le_refl _⟩, ⟨bl⟩⟩
   case rest =>
    clear HC8
    obtain ⟨kq, x18_7, rfl, HA, HJ7, HB⟩ := hcut
    cases kq with
    | zero => exact absurd HA.out (by simp [impl_ValuationOf.j0])
    | succ kj7 =>
     have H := HA.out
     clear HA
     simp only [impl_ValuationOf.j0] at H
     by_cases c13 : x18_7 = true
     ·subst c13
      rw [if_pos rfl] at H
      simp only [Option.some.injEq, Prod.mk.injEq] at H
      obtain ⟨rfl, rfl⟩ := H
      go_wp2
      go_ret2
      exact ⟨er, bl⟩
     ·replace c13 := Bool.eq_false_iff.mpr c13
      subst c13
      have H1 : ((impl_valuation.f kj7 a0 a1).bind fun t250 => ((impl_valuation.f kj7 a0 a2).bind fun t251 => (some (wrap64 (t250 - t251), 0)))) = some (r1, r2) := by rw [if_neg (show ¬ (false = true) by decide)] at H; exact H
      clear H
      have H := H1
      clear H1
      replace H := zi H
      obtain ⟨t250, A14, H⟩ := H
      try dsimp only at H
      replace H := zi H
      obtain ⟨t251, A15, H⟩ := H
      try dsimp only at H
      simp only [Option.some.injEq, Prod.mk.injEq] at H
      obtain ⟨rfl, rfl⟩ := H
      go_wp2_with (first | ((with_reducible refine zf 50 rfl ?_); refine g1 (some 27) Try.func50 #[.int .i64 a0, .int .i64 a1] ?_; (with_reducible refine (impl_valuation.calls kj7 a0 a1 t250 _ A14.out).mono ?_); rintro e w' ⟨rfl, ⟨nd, rfl⟩⟩; refine ⟨_, rfl, ?_⟩) | ((with_reducible refine zf 50 rfl ?_); refine g1 (some 30) Try.func50 #[.int .i64 a0, .int .i64 a2] ?_; (with_reducible refine (impl_valuation.calls kj7 a0 a2 t251 _ A15.out).mono ?_); rintro e w' ⟨rfl, ⟨nd, rfl⟩⟩; refine ⟨_, rfl, ?_⟩))
      go_ret2
      exact ⟨er, bl⟩
  ·replace c7 := Bool.eq_false_iff.mpr c7
   subst c7
   have H1 : (some (0, 2)) = some (r1, r2) := by rw [if_neg (show ¬ (false = true) by decide)] at H; exact H
   clear H
   have H := H1
   clear H1
   simp only [Option.some.injEq, Prod.mk.injEq] at H
   obtain ⟨rfl, rfl⟩ := H
   go_enter Try.func17, Try.ntmps17
   go_wp2_with (first | ((with_reducible refine zf 48 rfl ?_); refine g1 (some 10) Try.func48 #[.int .i64 a0] ?_; (with_reducible refine (impl_isPrime.calls a0 true _ A4.out).mono ?_); rintro e w' ⟨rfl, ⟨nd, rfl⟩⟩; refine ⟨_, rfl, ?_⟩) | ((with_reducible refine zg 15 rfl ?_); refine Kd.R_lit (Kd.int .i64) _ 2 ?hg (N := 15) ?hd (xs := ([a1, a2] : List Int)) (inner := [.int .i64 a1, .int .i64 a2]) (ok := fun _ => True) (okp := fun _ => True) ?hr ?hp (fun _ hk => hk) trivial (Below.refl _ _) (Nat.le_refl _) (by simp) ?_; (case hd => rfl); (case hg => rfl); (case hr => first | (go_simp; done) | (go_simp; rfl)); (case hp => exact (Reps.one (show Kd.M (Kd.int .i64) _ _ _ a1 [.int .i64 a1] from rfl) (Reps.one (show Kd.M (Kd.int .i64) _ _ _ a2 [.int .i64 a2] from rfl) (Reps.none _ _)))); intro v247 w16 ho17 hb hg_ hnew_; clear hg_ hnew_; (first | rw [← Ny246.out] at ho17 | (simp only [Int.reduceToNat] at ho17; rw [← Ny246.out] at ho17)); have HO248 := Aside0.mk (Kd.R_lower ho17 (below_size (bl))); replace HB := bs hb; clear hb ho17; obtain ⟨Ao18, co18, eo18⟩ := Kd.R_slice HO248.out; subst eo18) | ((with_reducible refine zf 49 rfl ?_); refine g1 (some 16) Try.func49 #[.int .i64 100000000000000000, .slice Ao18 y246.length co18] ?_; (with_reducible refine (impl_within.calls k 100000000000000000 _ _ y246 false _ ?side1 ?side2 A6.out).mono ?_); (case side1 => repeat (first | exact (Kd.R_reads' HO248.out).2.2 | (with_reducible refine Kd.C_alloc ?_ _) | (with_reducible refine Kd.C_drewN ?_ _) | (with_reducible refine Kd.C_drew ?_))); (case side2 => exact (Kd.R_reads' HO248.out).2.1); rintro e w' ⟨rfl, ⟨nd, rfl⟩⟩; refine ⟨_, rfl, ?_⟩))
   go_ret2
   exact ⟨er, bl⟩
 ·replace c5 := Bool.eq_false_iff.mpr c5
  subst c5
  have H1 : (some (0, 1)) = some (r1, r2) := by rw [if_neg (show ¬ (false = true) by decide)] at H; exact H
  clear H
  have H := H1
  clear H1
  simp only [Option.some.injEq, Prod.mk.injEq] at H
  obtain ⟨rfl, rfl⟩ := H
  go_enter Try.func17, Try.ntmps17
  go_wp2_with (first | ((with_reducible refine zf 48 rfl ?_); refine g1 (some 10) Try.func48 #[.int .i64 a0] ?_; (with_reducible refine (impl_isPrime.calls a0 false _ A4.out).mono ?_); rintro e w' ⟨rfl, ⟨nd, rfl⟩⟩; refine ⟨_, rfl, ?_⟩))
  go_ret2
  exact ⟨er, bl⟩

/-! ### spec_l01DrawPrime: function 80 -/
def spec_l01DrawPrime.f (s0_0 : List Int) (s0_1 : Int) (s0_2 : Int) : Option (Int × Int × Int) := (spec_l01Pick.f s0_0 s0_1 s0_2 (([2, 2, 3, 3, 5, 7] : List Int))).bind fun bt255 => (some (bt255.1, bt255.2.1, bt255.2.2))
set_option maxHeartbeats 8000000 in
set_option maxRecDepth 100000 in
theorem spec_l01DrawPrime.calls (g : Nat) (s0_0 : List Int) (s0_1 : Int) (s0_2 : Int) (r1 : Int) (r2 : Int) (r3 : Int) (w0 w : World) (hI : IsS101 w0 w g s0_0 s0_1 s0_2) (hB : Below w0.heap.size w0 w) (h : spec_l01DrawPrime.f s0_0 s0_1 s0_2 = some (r1, r2, r3)) :
  Calls Try.prog 80 #[.pointer (some ⟨g, 0, none⟩)] w fun e w' => e = .returned (.int .i64 r1) ∧ IsS101 w0 w' g s0_0 r2 r3 ∧ Below w0.heap.size w0 w' ∧ KeepBut w w' g none := by
 have HI0 := Aside0.mk hI
 have HK := Aside0.mk (KeepBut.refl w g none)
 have HL := Aside0.mk hB.size
 clear hI
 have HW0 := Aside0.mk hB.size
 have HB := Aside0.mk hB
 clear hB
 unfold spec_l01DrawPrime.f at h
 have H := h
 clear h
 obtain ⟨y252, hy252⟩ : ∃ y_ : List Int, y_ = (([2, 2, 3, 3, 5, 7] : List Int)) := ⟨_, rfl⟩
 replace H : ((spec_l01Pick.f s0_0 s0_1 s0_2 y252).bind fun bt255 => (some (bt255.1, bt255.2.1, bt255.2.2))) = some (r1, r2, r3) := by first | exact hy252 ▸ H | exact H
 have Ny252 := Aside0.mk hy252
 clear hy252
 replace H := zi H
 obtain ⟨⟨t255, t256, t257⟩, A2, H⟩ := H
 try dsimp only at H
 simp only [Option.some.injEq, Prod.mk.injEq] at H
 obtain ⟨rfl, rfl, rfl⟩ := H
 go_enter Try.func80, Try.ntmps80
 go_wp2_with (first | ((with_reducible refine zg 4 rfl ?_); refine Kd.R_lit (Kd.int .i64) _ 2 ?hg (N := 4) ?hd (xs := ([2, 2, 3, 3, 5, 7] : List Int)) (inner := [.int .i64 2, .int .i64 2, .int .i64 3, .int .i64 3, .int .i64 5, .int .i64 7]) (ok := fun _ => True) (okp := fun _ => True) ?hr ?hp (fun _ hk => hk) trivial (Below.refl _ _) (Nat.le_refl _) (by simp) ?_; (case hd => rfl); (case hg => rfl); (case hr => first | (go_simp; done) | (go_simp; rfl)); (case hp => exact (Reps.one (show Kd.M (Kd.int .i64) _ _ _ 2 [.int .i64 2] from rfl) (Reps.one (show Kd.M (Kd.int .i64) _ _ _ 2 [.int .i64 2] from rfl) (Reps.one (show Kd.M (Kd.int .i64) _ _ _ 3 [.int .i64 3] from rfl) (Reps.one (show Kd.M (Kd.int .i64) _ _ _ 3 [.int .i64 3] from rfl) (Reps.one (show Kd.M (Kd.int .i64) _ _ _ 5 [.int .i64 5] from rfl) (Reps.one (show Kd.M (Kd.int .i64) _ _ _ 7 [.int .i64 7] from rfl) (Reps.none _ _)))))))); intro v253 w3 ho4 hb hg_ hnew_; clear hg_ hnew_; (first | rw [← Ny252.out] at ho4 | (simp only [Int.reduceToNat] at ho4; rw [← Ny252.out] at ho4)); have HO254 := Aside0.mk (Kd.R_lower ho4 (keep_size (w := w) (g := g) (row := none) (kl))); replace HK := Aside0.mk (KeepBut.trans (kl) (KeepBut.of_below hb g none) (.inl rfl)); replace HB := Aside0.mk (below_step IsS101.b hb); replace HI0 := Aside0.mk (IsS101.below (IsS101.a) hb); clear hb ho4; obtain ⟨Ao5, co5, eo5⟩ := Kd.R_slice HO254.out; subst eo5) | ((with_reducible refine zf 46 rfl ?_); refine g1 (some 5) Try.func46 #[.pointer (some ⟨g, 0, none⟩), .slice Ao5 y252.length co5] ?_; (with_reducible refine (spec_l01Pick.calls g s0_0 s0_1 s0_2 _ _ y252 t255 t256 t257 w0 _ ?side1 ?side2 ?side3 ?side4 ?side5 A2.out).mono ?_); (case side1 => exact IsS101.a); (case side2 => exact IsS101.b); (case side3 => repeat (first | exact (Kd.R_reads' HO254.out).2.2 | (with_reducible refine Kd.C_alloc ?_ _) | (with_reducible refine Kd.C_drewN ?_ _) | (with_reducible refine Kd.C_drew ?_))); (case side4 => exact (Kd.R_reads' HO254.out).2.1); (case side5 => exact far_slice (IsS101.own_ne HI0.out HO254.out (by decide))); rintro e w6 ⟨rfl, hi, hb, hk⟩; refine ⟨_, rfl, ?_⟩; replace HO254 := Aside0.mk (Kd.R_mono (Kd.R_keep (IsS101.apart (IsS101.a : IsS101 w0 _ g s0_0 s0_1 s0_2) (by (with_reducible repeat (first | apply Kd.R_alloc | apply Kd.R_drewN | apply Kd.R_drew)); exact HO254.out) (by decide)) hk (fun _ h => h.2)) (fun _ h => h.1)); replace HK := Aside0.mk (KeepBut.trans (kl) hk (.inl rfl)); replace HI0 := Aside0.mk (hi); replace HB := Aside0.mk (hb); (try clear hb hk)))
 go_ret
 exact ⟨er, IsS101.a, IsS101.b, kl⟩

/-! ### spec_l03Draw: function 81 -/
def spec_l03Draw.f (k : Nat) (s0_0 : List Int) (s0_1 : Int) (s0_2 : Int) (a1 : Int) : Option (Int × Int × Int × Int × Int) := (spec_l01Next.f s0_0 s0_1 s0_2 13).bind fun bt259 => ((spec_l01Pick.f s0_0 bt259.2.1 bt259.2.2 (([0, 1, 2, 3, bt259.1] : List Int))).bind fun bt265 => ((spec_l01Next.f s0_0 bt265.2.1 bt265.2.2 13).bind fun bt268 => ((spec_l01Pick.f s0_0 bt268.2.1 bt268.2.2 (([0, 1, 2, 3, bt268.1] : List Int))).bind fun bt274 => ((spec_l01Power.f k a1 bt265.1).bind fun t278 => ((spec_l01Next.f s0_0 bt274.2.1 bt274.2.2 t278).bind fun bt279 => ((spec_l01Next.f s0_0 bt279.2.1 bt279.2.2 3).bind fun bt282 => (if bt282.1 = 0 then ((spec_l01Power.f k a1 (mn bt265.1 2)).bind fun t285 => (if t285 = 0 then (none) else ((spec_l01Power.f k a1 (mn bt265.1 2)).bind fun t286 => (if t278 = 0 then (none) else (some (bt265.1, Int.tmod (wrap64 ((wrap64 (Int.tdiv bt279.1 t285)) * t286)) t278, bt274.1, bt282.2.1, bt282.2.2)))))) else (some (bt265.1, bt279.1, bt274.1, bt282.2.1, bt282.2.2)))))))))
def spec_l03Draw.T5 : Bool × List (List Nat × List Nat) := (true, [([], []), ([0], [0]), ([], []), ([], []), ([3], [3]), ([4], [4]), ([2, 5], [2, 5]), ([1, 6], [1, 6]), ([], []), ([], []), ([9], [9]), ([10], [10]), ([8, 11, 6], [8, 11]), ([7, 12], [7, 12]), ([], []), ([13, 14], [13, 14]), ([0, 1, 2, 3, 4, 5, 6, 7, 8, 9, 10, 11, 12, 13, 14, 15], []), ([16, 15, 12, 0, 1, 2, 3, 4, 5, 6, 7, 8, 9, 10, 11, 12, 13, 14, 15], [15, 16])])
def spec_l03Draw.B5 : List Nat := [0, 1, 0, 0, 8, 24, 60, 127, 0, 0, 512, 1536, 3964, 8191, 0, 32767, 65535, 131071]
theorem spec_l03Draw.tab5 : rtab .any (opsOf Try.f81 5) = spec_l03Draw.T5 := by kernel_rfl
theorem spec_l03Draw.bits5 : waitsOk spec_l03Draw.T5.2 spec_l03Draw.B5 = true := by kernel_rfl
set_option maxHeartbeats 8000000 in
set_option maxRecDepth 100000 in
theorem spec_l03Draw.calls (k : Nat) (g : Nat) (s0_0 : List Int) (s0_1 : Int) (s0_2 : Int) (a1 : Int) (r1 : Int) (r2 : Int) (r3 : Int) (r4 : Int) (r5 : Int) (w0 w : World) (hI : IsS101 w0 w g s0_0 s0_1 s0_2) (hB : Below w0.heap.size w0 w) (h : spec_l03Draw.f k s0_0 s0_1 s0_2 a1 = some (r1, r2, r3, r4, r5)) :
  Calls Try.prog 81 #[.pointer (some ⟨g, 0, none⟩), .int .i64 a1] w fun e w' => e = .returned (.agg #[.int .i64 r1, .int .i64 r2, .int .i64 r3]) ∧ IsS101 w0 w' g s0_0 r4 r5 ∧ Below w0.heap.size w0 w' ∧ KeepBut w w' g none := by
 have hu27 := Try.underlying27
 have HI0 := Aside0.mk hI
 have HK := Aside0.mk (KeepBut.refl w g none)
 have HL := Aside0.mk hB.size
 clear hI
 have HW0 := Aside0.mk hB.size
 have HB := Aside0.mk hB
 clear hB
 unfold spec_l03Draw.f at h
 have H := h
 clear h
 replace H := zi H
 obtain ⟨⟨t259, t260, t261⟩, A3, H⟩ := H
 try dsimp only at H
 obtain ⟨y262, hy262⟩ : ∃ y_ : List Int, y_ = (([0, 1, 2, 3, t259] : List Int)) := ⟨_, rfl⟩
 replace H : ((spec_l01Pick.f s0_0 t260 t261 y262).bind fun bt265 => ((spec_l01Next.f s0_0 bt265.2.1 bt265.2.2 13).bind fun bt268 => ((spec_l01Pick.f s0_0 bt268.2.1 bt268.2.2 (([0, 1, 2, 3, bt268.1] : List Int))).bind fun bt274 => ((spec_l01Power.f k a1 bt265.1).bind fun t278 => ((spec_l01Next.f s0_0 bt274.2.1 bt274.2.2 t278).bind fun bt279 => ((spec_l01Next.f s0_0 bt279.2.1 bt279.2.2 3).bind fun bt282 => (if bt282.1 = 0 then ((spec_l01Power.f k a1 (mn bt265.1 2)).bind fun t285 => (if t285 = 0 then (none) else ((spec_l01Power.f k a1 (mn bt265.1 2)).bind fun t286 => (if t278 = 0 then (none) else (some (bt265.1, Int.tmod (wrap64 ((wrap64 (Int.tdiv bt279.1 t285)) * t286)) t278, bt274.1, bt282.2.1, bt282.2.2)))))) else (some (bt265.1, bt279.1, bt274.1, bt282.2.1, bt282.2.2))))))))) = some (r1, r2, r3, r4, r5) := by first | exact hy262 ▸ H | exact H
 have Ny262 := Aside0.mk hy262
 clear hy262
 replace H := zi H
 obtain ⟨⟨t265, t266, t267⟩, A4, H⟩ := H
 try dsimp only at H
 replace H := zi H
 obtain ⟨⟨t268, t269, t270⟩, A5, H⟩ := H
 try dsimp only at H
 obtain ⟨y271, hy271⟩ : ∃ y_ : List Int, y_ = (([0, 1, 2, 3, t268] : List Int)) := ⟨_, rfl⟩
 replace H : ((spec_l01Pick.f s0_0 t269 t270 y271).bind fun bt274 => ((spec_l01Power.f k a1 t265).bind fun t278 => ((spec_l01Next.f s0_0 bt274.2.1 bt274.2.2 t278).bind fun bt279 => ((spec_l01Next.f s0_0 bt279.2.1 bt279.2.2 3).bind fun bt282 => (if bt282.1 = 0 then ((spec_l01Power.f k a1 (mn t265 2)).bind fun t285 => (if t285 = 0 then (none) else ((spec_l01Power.f k a1 (mn t265 2)).bind fun t286 => (if t278 = 0 then (none) else (some (t265, Int.tmod (wrap64 ((wrap64 (Int.tdiv bt279.1 t285)) * t286)) t278, bt274.1, bt282.2.1, bt282.2.2)))))) else (some (t265, bt279.1, bt274.1, bt282.2.1, bt282.2.2))))))) = some (r1, r2, r3, r4, r5) := by first | exact hy271 ▸ H | exact H
 have Ny271 := Aside0.mk hy271
 clear hy271
 replace H := zi H
 obtain ⟨⟨t274, t275, t276⟩, A6, H⟩ := H
 try dsimp only at H
 replace H := zi H
 obtain ⟨t278, A7, H⟩ := H
 try dsimp only at H
 replace H := zi H
 obtain ⟨⟨t279, t280, t281⟩, A8, H⟩ := H
 try dsimp only at H
 replace H := zi H
 obtain ⟨⟨t282, t283, t284⟩, A9, H⟩ := H
 try dsimp only at H
 replace H := ii H
 rcases H with ⟨c10, H⟩ | ⟨c10, H⟩
 ·obtain ⟨c10b0, c10b1⟩ := zz c10
  clear c10
  obtain ⟨ji11, hji11⟩ : ∃ j_ : Int, (mn t265 2) = j_ := ⟨_, rfl⟩
  replace H : ((spec_l01Power.f k a1 (ji11)).bind fun t285 => (if t285 = 0 then (none) else ((spec_l01Power.f k a1 (ji11)).bind fun t286 => (if t278 = 0 then (none) else (some (t265, Int.tmod (wrap64 ((wrap64 (Int.tdiv t279 t285)) * t286)) t278, t274, t283, t284)))))) = some (r1, r2, r3, r4, r5) := by first | (rw [hji11] at H; exact H) | (simp only [hji11] at H ⊢; exact H)
  (try rw [hji11] at A3)
  (try rw [hji11] at A4)
  (try rw [hji11] at A5)
  (try rw [hji11] at A6)
  (try rw [hji11] at A7)
  (try rw [hji11] at A8)
  (try rw [hji11] at A9)
  (try (have hji11h : ji11 ≤ 2 := by (rw [← hji11]; unfold mn; (repeat' split) <;> omega)))
  (try (have hji11g : ji11 ≤ 64 := by omega))
  have hji11_ : (if 2 < t265 then 2 else t265) = ji11 := hji11
  replace H := zi H
  obtain ⟨t285, A12, H⟩ := H
  try dsimp only at H
  replace H := ii H
  rcases H with ⟨c13, H⟩ | ⟨c13, H⟩
  ·exact absurd H (by simp)
  ·obtain ⟨c13b0, c13b1⟩ := zy c13
   replace H := zi H
   obtain ⟨t286, A15, H⟩ := H
   try dsimp only at H
   replace H := ii H
   rcases H with ⟨c16, H⟩ | ⟨c16, H⟩
   ·exact absurd H (by simp)
   ·obtain ⟨c16b0, c16b1⟩ := zy c16
    simp only [Option.some.injEq, Prod.mk.injEq] at H
    obtain ⟨rfl, rfl, rfl, rfl, rfl⟩ := H
    go_enter Try.func81, Try.ntmps81
    try go_wp2_with (first | ((with_reducible refine zg 4 rfl ?_); refine z3 4 27 0 0 0 ?_; intro gb258 hg w17 BK258 hb; have GW258 := Aside0.mk ((by rw [hg]; exact (keep_size (w := w) (g := g) (row := none) (kl)) : w.heap.size ≤ gb258)); have GE258 := Aside0.mk ((Nat.le_trans HW0.out (by rw [hg]; exact (keep_size (w := w) (g := g) (row := none) (kl)) : w.heap.size ≤ gb258) : w0.heap.size ≤ gb258)); have NB0_258 := Aside0.mk ((by rw [hg]; exact Nat.ne_of_lt (IsS101.lt (IsS101.a : IsS101 w0 _ g s0_0 s0_1 s0_2)) : g ≠ gb258)); have NB258_0 := Aside0.mk ((by rw [hg]; exact Nat.ne_of_gt (IsS101.lt (IsS101.a : IsS101 w0 _ g s0_0 s0_1 s0_2)) : gb258 ≠ g)); replace HK := Aside0.mk (KeepBut.trans (kl) (KeepBut.of_below hb g none) (.inl rfl)); replace HB := Aside0.mk (below_step IsS101.b hb); replace HI0 := Aside0.mk (IsS101.below (IsS101.a) hb); clear hb hg) | ((with_reducible refine zf 47 rfl ?_); refine g1 (some 9) Try.func47 #[.pointer (some ⟨g, 0, none⟩), .int .i64 13] ?_; (with_reducible refine (spec_l01Next.calls g s0_0 s0_1 s0_2 13 t259 t260 t261 w0 _ ?side1 ?side2 A3.out).mono ?_); (case side1 => exact IsS101.a); (case side2 => exact IsS101.b); rintro e w18 ⟨rfl, hi, hb, hk⟩; refine ⟨_, rfl, ?_⟩; replace BK258 := kb hk BK258 NB258_0; replace HK := Aside0.mk (KeepBut.trans (kl) hk (.inl rfl)); replace HI0 := Aside0.mk (hi); replace HB := Aside0.mk (hb); (try clear hb hk)) | ((with_reducible refine zg 10 rfl ?_); refine Kd.R_lit (Kd.int .i64) _ 2 ?hg (N := 10) ?hd (xs := ([0, 1, 2, 3, t259] : List Int)) (inner := [.int .i64 0, .int .i64 1, .int .i64 2, .int .i64 3, .int .i64 t259]) (ok := fun _ => True) (okp := fun _ => True) ?hr ?hp (fun _ hk => hk) trivial (Below.refl _ _) (Nat.le_refl _) (by simp) ?_; (case hd => rfl); (case hg => rfl); (case hr => first | (go_simp; done) | (go_simp; rfl)); (case hp => exact (Reps.one (show Kd.M (Kd.int .i64) _ _ _ 0 [.int .i64 0] from rfl) (Reps.one (show Kd.M (Kd.int .i64) _ _ _ 1 [.int .i64 1] from rfl) (Reps.one (show Kd.M (Kd.int .i64) _ _ _ 2 [.int .i64 2] from rfl) (Reps.one (show Kd.M (Kd.int .i64) _ _ _ 3 [.int .i64 3] from rfl) (Reps.one (show Kd.M (Kd.int .i64) _ _ _ t259 [.int .i64 t259] from rfl) (Reps.none _ _))))))); intro v263 w19 ho20 hb hg_ hnew_; clear hg_ hnew_; (first | rw [← Ny262.out] at ho20 | (simp only [Int.reduceToNat] at ho20; rw [← Ny262.out] at ho20)); have HO264 := Aside0.mk (Kd.R_lower ho20 (keep_size (w := w) (g := g) (row := none) (kl))); replace BK258 := bb BK258 hb; replace HK := Aside0.mk (KeepBut.trans (kl) (KeepBut.of_below hb g none) (.inl rfl)); replace HB := Aside0.mk (below_step IsS101.b hb); replace HI0 := Aside0.mk (IsS101.below (IsS101.a) hb); clear hb ho20; obtain ⟨Ao21, co21, eo21⟩ := Kd.R_slice HO264.out; subst eo21) | ((with_reducible refine zf 46 rfl ?_); refine g1 (some 11) Try.func46 #[.pointer (some ⟨g, 0, none⟩), .slice Ao21 y262.length co21] ?_; (with_reducible refine (spec_l01Pick.calls g s0_0 t260 t261 _ _ y262 t265 t266 t267 w0 _ ?side1 ?side2 ?side3 ?side4 ?side5 A4.out).mono ?_); (case side1 => exact IsS101.a); (case side2 => exact IsS101.b); (case side3 => repeat (first | exact (Kd.R_reads' HO264.out).2.2 | (with_reducible refine Kd.C_alloc ?_ _) | (with_reducible refine Kd.C_drewN ?_ _) | (with_reducible refine Kd.C_drew ?_))); (case side4 => exact (Kd.R_reads' HO264.out).2.1); (case side5 => exact far_slice (IsS101.own_ne HI0.out HO264.out (by decide))); rintro e w22 ⟨rfl, hi, hb, hk⟩; refine ⟨_, rfl, ?_⟩; replace BK258 := kb hk BK258 NB258_0; replace HO264 := Aside0.mk (Kd.R_mono (Kd.R_keep (IsS101.apart (IsS101.a : IsS101 w0 _ g s0_0 t260 t261) (by (with_reducible repeat (first | apply Kd.R_alloc | apply Kd.R_drewN | apply Kd.R_drew)); exact HO264.out) (by decide)) hk (fun _ h => h.2)) (fun _ h => h.1)); replace HK := Aside0.mk (KeepBut.trans (kl) hk (.inl rfl)); replace HI0 := Aside0.mk (hi); replace HB := Aside0.mk (hb); (try clear hb hk)) | ((with_reducible refine zf 47 rfl ?_); refine g1 (some 14) Try.func47 #[.pointer (some ⟨g, 0, none⟩), .int .i64 13] ?_; (with_reducible refine (spec_l01Next.calls g s0_0 t266 t267 13 t268 t269 t270 w0 _ ?side1 ?side2 A5.out).mono ?_); (case side1 => exact IsS101.a); (case side2 => exact IsS101.b); rintro e w23 ⟨rfl, hi, hb, hk⟩; refine ⟨_, rfl, ?_⟩; replace BK258 := kb hk BK258 NB258_0; replace HO264 := Aside0.mk (Kd.R_mono (Kd.R_keep (IsS101.apart (IsS101.a : IsS101 w0 _ g s0_0 t266 t267) (by (with_reducible repeat (first | apply Kd.R_alloc | apply Kd.R_drewN | apply Kd.R_drew)); exact HO264.out) (by decide)) hk (fun _ h => h.2)) (fun _ h => h.1)); replace HK := Aside0.mk (KeepBut.trans (kl) hk (.inl rfl)); replace HI0 := Aside0.mk (hi); replace HB := Aside0.mk (hb); (try clear hb hk)) | ((with_reducible refine zg 15 rfl ?_); refine Kd.R_lit (Kd.int .i64) _ 2 ?hg (N := 15) ?hd (xs := ([0, 1, 2, 3, t268] : List Int)) (inner := [.int .i64 0, .int .i64 1, .int .i64 2, .int .i64 3, .int .i64 t268]) (ok := fun _ => True) (okp := fun _ => True) ?hr ?hp (fun _ hk => hk) trivial (Below.refl _ _) (Nat.le_refl _) (by simp) ?_; (case hd => rfl); (case hg => rfl); (case hr => first | (go_simp; done) | (go_simp; rfl)); (case hp => exact (Reps.one (show Kd.M (Kd.int .i64) _ _ _ 0 [.int .i64 0] from rfl) (Reps.one (show Kd.M (Kd.int .i64) _ _ _ 1 [.int .i64 1] from rfl) (Reps.one (show Kd.M (Kd.int .i64) _ _ _ 2 [.int .i64 2] from rfl) (Reps.one (show Kd.M (Kd.int .i64) _ _ _ 3 [.int .i64 3] from rfl) (Reps.one (show Kd.M (Kd.int .i64) _ _ _ t268 [.int .i64 t268] from rfl) (Reps.none _ _))))))); intro v272 w24 ho25 hb hg_ hnew_; clear hg_ hnew_; (first | rw [← Ny271.out] at ho25 | (simp only [Int.reduceToNat] at ho25; rw [← Ny271.out] at ho25)); have HO273 := Aside0.mk (Kd.R_lower (Kd.R_new' ho25 (Kd.R_lt (by (with_reducible repeat (first | apply Kd.R_alloc | apply Kd.R_drewN | apply Kd.R_drew)); exact HO264.out))) (keep_size (w := w) (g := g) (row := none) (kl))); replace HO264 := Aside0.mk (Kd.R_elder' (by (with_reducible repeat (first | apply Kd.R_alloc | apply Kd.R_drewN | apply Kd.R_drew)); exact HO264.out) (Kd.R_base ho25) hb); replace BK258 := bb BK258 hb; replace HK := Aside0.mk (KeepBut.trans (kl) (KeepBut.of_below hb g none) (.inl rfl)); replace HB := Aside0.mk (below_step IsS101.b hb); replace HI0 := Aside0.mk (IsS101.below (IsS101.a) hb); clear hb ho25; obtain ⟨Ao26, co26, eo26⟩ := Kd.R_slice HO273.out; subst eo26) | ((with_reducible refine zf 46 rfl ?_); refine g1 (some 16) Try.func46 #[.pointer (some ⟨g, 0, none⟩), .slice Ao26 y271.length co26] ?_; (with_reducible refine (spec_l01Pick.calls g s0_0 t269 t270 _ _ y271 t274 t275 t276 w0 _ ?side1 ?side2 ?side3 ?side4 ?side5 A6.out).mono ?_); (case side1 => exact IsS101.a); (case side2 => exact IsS101.b); (case side3 => repeat (first | exact (Kd.R_reads' HO273.out).2.2 | (with_reducible refine Kd.C_alloc ?_ _) | (with_reducible refine Kd.C_drewN ?_ _) | (with_reducible refine Kd.C_drew ?_))); (case side4 => exact (Kd.R_reads' HO273.out).2.1); (case side5 => exact far_slice (IsS101.own_ne HI0.out HO273.out (by decide))); rintro e w27 ⟨rfl, hi, hb, hk⟩; refine ⟨_, rfl, ?_⟩; replace BK258 := kb hk BK258 NB258_0; replace HO264 := Aside0.mk (Kd.R_mono (Kd.R_keep (IsS101.apart (IsS101.a : IsS101 w0 _ g s0_0 t269 t270) (by (with_reducible repeat (first | apply Kd.R_alloc | apply Kd.R_drewN | apply Kd.R_drew)); exact HO264.out) (by decide)) hk (fun _ h => h.2)) (fun _ h => h.1)); replace HO273 := Aside0.mk (Kd.R_mono (Kd.R_keep (IsS101.apart (IsS101.a : IsS101 w0 _ g s0_0 t269 t270) (by (with_reducible repeat (first | apply Kd.R_alloc | apply Kd.R_drewN | apply Kd.R_drew)); exact HO273.out) (by decide)) hk (fun _ h => h.2)) (fun _ h => h.1)); replace HK := Aside0.mk (KeepBut.trans (kl) hk (.inl rfl)); replace HI0 := Aside0.mk (hi); replace HB := Aside0.mk (hb); (try clear hb hk)) | ((with_reducible refine zg 5 rfl ?_); refine z3 5 27 0 0 0 ?_; intro gb277 hg w28 BK277 hb; have GW277 := Aside0.mk ((by rw [hg]; exact (keep_size (w := w) (g := g) (row := none) (kl)) : w.heap.size ≤ gb277)); have GE277 := Aside0.mk ((Nat.le_trans HW0.out (by rw [hg]; exact (keep_size (w := w) (g := g) (row := none) (kl)) : w.heap.size ≤ gb277) : w0.heap.size ≤ gb277)); have NB258_277 := nl hg BK258; have NB0_277 := Aside0.mk ((by rw [hg]; exact Nat.ne_of_lt (IsS101.lt (IsS101.a : IsS101 w0 _ g s0_0 t275 t276)) : g ≠ gb277)); have NB277_0 := Aside0.mk ((by rw [hg]; exact Nat.ne_of_gt (IsS101.lt (IsS101.a : IsS101 w0 _ g s0_0 t275 t276)) : gb277 ≠ g)); replace HO264 := Aside0.mk (Kd.R_below (by (with_reducible repeat (first | apply Kd.R_alloc | apply Kd.R_drewN | apply Kd.R_drew)); exact HO264.out) hb); replace HO273 := Aside0.mk (Kd.R_below (by (with_reducible repeat (first | apply Kd.R_alloc | apply Kd.R_drewN | apply Kd.R_drew)); exact HO273.out) hb); replace BK258 := bb BK258 hb; replace HK := Aside0.mk (KeepBut.trans (kl) (KeepBut.of_below hb g none) (.inl rfl)); replace HB := Aside0.mk (below_step IsS101.b hb); replace HI0 := Aside0.mk (IsS101.below (IsS101.a) hb); clear hb hg; obtain ⟨hnb29, hnc29⟩ := zm NB258_277; have hnb30 := NB277_0.out; have hnc30 := NB0_277.out; obtain ⟨hcz31_0, hcz31_1, hcz31_2, hfz31_0, hfz31_1, hfz31_2⟩ := cq3 BK277) | ((with_reducible refine zf 34 rfl ?_); refine g1 (some 21) Try.func34 #[.int .i64 a1, .int .i64 t265] ?_; (with_reducible refine (spec_l01Power.calls k a1 t265 t278 _ A7.out).mono ?_); rintro e w' ⟨rfl, ⟨nd, rfl⟩⟩; refine ⟨_, rfl, ?_⟩) | ((with_reducible refine zf 47 rfl ?_); refine g1 (some 24) Try.func47 #[.pointer (some ⟨g, 0, none⟩), .int .i64 t278] ?_; (with_reducible refine (spec_l01Next.calls g s0_0 t275 t276 t278 t279 t280 t281 w0 _ ?side1 ?side2 A8.out).mono ?_); (case side1 => exact IsS101.a); (case side2 => exact IsS101.b); rintro e w32 ⟨rfl, hi, hb, hk⟩; refine ⟨_, rfl, ?_⟩; replace BK258 := Aside0.mk (KeepBut.blk hk (g' := gb258) (o := .cells #[.int .i64 0, .int .i64 0, .int .i64 0] 27 (0, 0)) (bp) NB258_0.out (by simp)); replace HO264 := Aside0.mk (Kd.R_mono (Kd.R_keep (IsS101.apart (IsS101.a : IsS101 w0 _ g s0_0 t275 t276) (by (with_reducible repeat (first | apply Kd.R_alloc | apply Kd.R_drewN | apply Kd.R_drew)); exact (Kd.R_mono (Kd.R_far (p := ⟨gb277, 2, none⟩) (Kd.R_far (p := ⟨gb277, 1, none⟩) (Kd.R_far (p := ⟨gb277, 0, none⟩) (Kd.R_types HO264.out BK277.out (by decide)) (fun _ hk => hk.2) (.int .i64 t265)) (fun _ hk => hk.2) (.int .i64 0)) (fun _ hk => hk.2) (.int .i64 t274)) (fun _ h_ => h_.1))) (by decide)) hk (fun _ h => h.2)) (fun _ h => h.1)); replace HO273 := Aside0.mk (Kd.R_mono (Kd.R_keep (IsS101.apart (IsS101.a : IsS101 w0 _ g s0_0 t275 t276) (by (with_reducible repeat (first | apply Kd.R_alloc | apply Kd.R_drewN | apply Kd.R_drew)); exact (Kd.R_mono (Kd.R_far (p := ⟨gb277, 2, none⟩) (Kd.R_far (p := ⟨gb277, 1, none⟩) (Kd.R_far (p := ⟨gb277, 0, none⟩) (Kd.R_types HO273.out BK277.out (by decide)) (fun _ hk => hk.2) (.int .i64 t265)) (fun _ hk => hk.2) (.int .i64 0)) (fun _ hk => hk.2) (.int .i64 t274)) (fun _ h_ => h_.1))) (by decide)) hk (fun _ h => h.2)) (fun _ h => h.1)); replace BK277 := Aside0.mk (KeepBut.blk hk (g' := gb277) (o := .cells #[.int .i64 t265, .int .i64 0, .int .i64 t274] 27 (0, 0)) (bp) NB277_0.out (by simp)); replace HK := Aside0.mk (KeepBut.trans (kl) hk (.inl rfl)); replace HI0 := Aside0.mk (hi); replace HB := Aside0.mk (hb); (try clear hb hk); obtain ⟨hcz33_0, hcz33_1, hcz33_2, hfz33_0, hfz33_1, hfz33_2⟩ := cq3 BK277) | ((with_reducible refine zf 47 rfl ?_); refine g1 (some 27) Try.func47 #[.pointer (some ⟨g, 0, none⟩), .int .i64 3] ?_; (with_reducible refine (spec_l01Next.calls g s0_0 t280 t281 3 t282 t283 t284 w0 _ ?side1 ?side2 A9.out).mono ?_); (case side1 => exact IsS101.a); (case side2 => exact IsS101.b); rintro e w34 ⟨rfl, hi, hb, hk⟩; refine ⟨_, rfl, ?_⟩; replace BK258 := Aside0.mk (KeepBut.blk hk (g' := gb258) (o := .cells #[.int .i64 0, .int .i64 0, .int .i64 0] 27 (0, 0)) (bp) NB258_0.out (by simp)); replace HO264 := Aside0.mk (Kd.R_mono (Kd.R_keep (IsS101.apart (IsS101.a : IsS101 w0 _ g s0_0 t280 t281) (by (with_reducible repeat (first | apply Kd.R_alloc | apply Kd.R_drewN | apply Kd.R_drew)); exact (Kd.R_mono (Kd.R_far (p := ⟨gb277, 1, none⟩) (Kd.R_types HO264.out BK277.out (by decide)) (fun _ hk => hk.2) (.int .i64 t279)) (fun _ h_ => h_.1))) (by decide)) hk (fun _ h => h.2)) (fun _ h => h.1)); replace HO273 := Aside0.mk (Kd.R_mono (Kd.R_keep (IsS101.apart (IsS101.a : IsS101 w0 _ g s0_0 t280 t281) (by (with_reducible repeat (first | apply Kd.R_alloc | apply Kd.R_drewN | apply Kd.R_drew)); exact (Kd.R_mono (Kd.R_far (p := ⟨gb277, 1, none⟩) (Kd.R_types HO273.out BK277.out (by decide)) (fun _ hk => hk.2) (.int .i64 t279)) (fun _ h_ => h_.1))) (by decide)) hk (fun _ h => h.2)) (fun _ h => h.1)); replace BK277 := Aside0.mk (KeepBut.blk hk (g' := gb277) (o := .cells #[.int .i64 t265, .int .i64 t279, .int .i64 t274] 27 (0, 0)) (bp) NB277_0.out (by simp)); replace HK := Aside0.mk (KeepBut.trans (kl) hk (.inl rfl)); replace HI0 := Aside0.mk (hi); replace HB := Aside0.mk (hb); (try clear hb hk)))
    replace HO264 := Aside0.mk (Kd.R_drew HO264.out)
    replace HO273 := Aside0.mk (Kd.R_drew HO273.out)
    replace BK258 := Aside0.mk (blk_drew BK258.out)
    replace BK277 := Aside0.mk (blk_drew BK277.out)
    replace HI0 := Aside0.mk (IsS101.drew HI0.out)
    replace HK := Aside0.mk (keep_drew HK.out)
    replace HB := Aside0.mk (below_drew1 HB.out)
    refine start_ (n := 18) (S := fun w' => w'.cell? ⟨gb277, 0, none⟩ = some (.int .i64 t265) ∧ w'.cell? ⟨gb277, 1, none⟩ = some (.int .i64 t279) ∧ w'.cell? ⟨gb277, 2, none⟩ = some (.int .i64 t274)) (ds := [17]) (tA 18 0) (by kernel_rfl) rfl rfl ⟨(blk_cell BK277.out 0).trans rfl, (blk_cell BK277.out 1).trans rfl, (blk_cell BK277.out 2).trans rfl⟩ (fun hHeld => ?_); refine with_tabW spec_l03Draw.tab5 spec_l03Draw.bits5 (fun HT_ HW_ => ?_)
    generalize w34.drew = w35 at HO264 HO273 BK258 BK277 HI0 HK HB hHeld ⊢
    refine pu 0 (some 29) (tA 18 1) HT_ ?_
    refine pu 2 (some 31) (tA 18 5) HT_ ?_
    refine pu 3 (some 32) (tA 18 13) HT_ ?_
    refine pu 8 (some 37) (tA 18 269) HT_ ?_
    refine pu 9 (some 38) (tA 18 781) HT_ ?_
    refine pu 14 (some 43) (tA 18 17165) HT_ ?_
    refine tk3 1 (some 30) (tA 18 17167) HT_ HW_ hHeld ?_
    refine tk3 4 (some 33) (tA 18 17183) HT_ HW_ hHeld ?_
    refine pu 5 (some 34) (tA 18 17215) HT_ ?_
    refine tk3 10 (some 39) (tA 18 18239) HT_ HW_ hHeld ?_
    refine pu 11 (some 40) (tA 18 20287) HT_ ?_
    refine o1 6 (some 35) (tA 18 20351) HT_ (fun K hK => ?_)
    refine goes_ Try.func34 (by kernel_rfl) rfl #[.int .i64 a1, .int .i64 ji11] (by rfl) rfl rfl (by (try simp only [List.map_toArray, List.map_cons, List.map_nil]); first | done | (simp only [hji11]; rfl) | rfl | (simp only [List.length_drop, List.length_take]; rfl)) ?_
    with_reducible refine (spec_l01Power.calls k a1 ji11 t285 _ A12.out).mono ?_
    rintro e w' ⟨rfl, ⟨nd, rfl⟩⟩
    refine ⟨_, rfl, ?_⟩
    refine hK.out _ _ (e3 BK277) (fun hHeld => ?_)
    clear hK K
    refine nm (some 35) ?_
    refine pu 7 (some 36) (tA 18 20479) HT_ ?_
    refine o1 12 (some 41) (tA 18 24575) HT_ (fun K hK => ?_)
    refine goes_ Try.func34 (by kernel_rfl) rfl #[.int .i64 a1, .int .i64 ji11] (by rfl) rfl rfl (by (try simp only [List.map_toArray, List.map_cons, List.map_nil]); first | done | (simp only [hji11]; rfl) | rfl | (simp only [List.length_drop, List.length_take]; rfl)) ?_
    with_reducible refine (spec_l01Power.calls k a1 ji11 t286 _ A15.out).mono ?_
    rintro e w' ⟨rfl, ⟨nd, rfl⟩⟩
    refine ⟨_, rfl, ?_⟩
    refine hK.out _ _ (e3 BK277) (fun hHeld => ?_)
    clear hK K
    refine nm (some 41) ?_
    refine pu 13 (some 42) (tA 18 32767) HT_ ?_
    refine pu 15 (some 44) (tA 18 65535) HT_ ?_
    refine pu 16 (some 45) (tA 18 131071) HT_ ?_
    refine last_ (i := 17) (N := none) (tA 18 262143) rfl rfl (one_of HT_.out (by kernel_rfl)) (by decide) (fun K hK => ?_)
    have hs36 : w35.cell? ⟨gb277, 1, none⟩ = some (.int .i64 t279) := (blk_cell BK277.out 1).trans rfl
    have hfs36 := blk_frozen BK277.out 1
    obtain ⟨hns36_0, hms36_0⟩ := zn NB258_277
    refine skip_ (w1 := ?_) (by rfl) rfl ?_ ?_
    rotate_left
    ·go_simp
     rfl
    refine hK.out _ _ ?_
    clear hK K
    refine done_ (done_of HT_.out (by kernel_rfl)) ?_
    obtain ⟨hcz37_0, hcz37_1, hcz37_2, hfz37_0, hfz37_1, hfz37_2⟩ := cq3 BK277
    have hnb38 := NB258_0.out
    have hnc38 := NB0_258.out
    obtain ⟨hcz39_0, hcz39_1, hcz39_2, hfz39_0, hfz39_1, hfz39_2⟩ := cq3 BK258
    try go_wp2
    refine bodyPost_ret (results_cell_row rfl _ _ gb258 27 #[.int .i64 t265, .int .i64 (Int.tmod (wrap64 ((wrap64 (Int.tdiv t279 t285)) * t286)) t278), .int .i64 t274] (0, 0) _ rfl (bp) Try.underlying27 rfl (by kernel_rfl)) rfl ?_
    exact ⟨by first | rfl | (simp [errW_none, errW_some] <;> rfl) | (simp only [← hji11]; first | rfl | (simp [errW_none, errW_some] <;> rfl)) | (simp [*, errW_none, errW_some] <;> rfl), IsS101.a, IsS101.b, kl⟩
 ·obtain ⟨c10b0, c10b1⟩ := zy c10
  simp only [Option.some.injEq, Prod.mk.injEq] at H
  obtain ⟨rfl, rfl, rfl, rfl, rfl⟩ := H
  go_enter Try.func81, Try.ntmps81
  go_wp2_with (first | ((with_reducible refine zg 4 rfl ?_); refine z3 4 27 0 0 0 ?_; intro gb258 hg w40 BK258 hb; have GW258 := Aside0.mk ((by rw [hg]; exact (keep_size (w := w) (g := g) (row := none) (kl)) : w.heap.size ≤ gb258)); have GE258 := Aside0.mk ((Nat.le_trans HW0.out (by rw [hg]; exact (keep_size (w := w) (g := g) (row := none) (kl)) : w.heap.size ≤ gb258) : w0.heap.size ≤ gb258)); have NB0_258 := Aside0.mk ((by rw [hg]; exact Nat.ne_of_lt (IsS101.lt (IsS101.a : IsS101 w0 _ g s0_0 s0_1 s0_2)) : g ≠ gb258)); have NB258_0 := Aside0.mk ((by rw [hg]; exact Nat.ne_of_gt (IsS101.lt (IsS101.a : IsS101 w0 _ g s0_0 s0_1 s0_2)) : gb258 ≠ g)); replace HK := Aside0.mk (KeepBut.trans (kl) (KeepBut.of_below hb g none) (.inl rfl)); replace HB := Aside0.mk (below_step IsS101.b hb); replace HI0 := Aside0.mk (IsS101.below (IsS101.a) hb); clear hb hg) | ((with_reducible refine zf 47 rfl ?_); refine g1 (some 9) Try.func47 #[.pointer (some ⟨g, 0, none⟩), .int .i64 13] ?_; (with_reducible refine (spec_l01Next.calls g s0_0 s0_1 s0_2 13 t259 t260 t261 w0 _ ?side1 ?side2 A3.out).mono ?_); (case side1 => exact IsS101.a); (case side2 => exact IsS101.b); rintro e w41 ⟨rfl, hi, hb, hk⟩; refine ⟨_, rfl, ?_⟩; replace BK258 := kb hk BK258 NB258_0; replace HK := Aside0.mk (KeepBut.trans (kl) hk (.inl rfl)); replace HI0 := Aside0.mk (hi); replace HB := Aside0.mk (hb); (try clear hb hk)) | ((with_reducible refine zg 10 rfl ?_); refine Kd.R_lit (Kd.int .i64) _ 2 ?hg (N := 10) ?hd (xs := ([0, 1, 2, 3, t259] : List Int)) (inner := [.int .i64 0, .int .i64 1, .int .i64 2, .int .i64 3, .int .i64 t259]) (ok := fun _ => True) (okp := fun _ => True) ?hr ?hp (fun _ hk => hk) trivial (Below.refl _ _) (Nat.le_refl _) (by simp) ?_; (case hd => rfl); (case hg => rfl); (case hr => first | (go_simp; done) | (go_simp; rfl)); (case hp => exact (Reps.one (show Kd.M (Kd.int .i64) _ _ _ 0 [.int .i64 0] from rfl) (Reps.one (show Kd.M (Kd.int .i64) _ _ _ 1 [.int .i64 1] from rfl) (Reps.one (show Kd.M (Kd.int .i64) _ _ _ 2 [.int .i64 2] from rfl) (Reps.one (show Kd.M (Kd.int .i64) _ _ _ 3 [.int .i64 3] from rfl) (Reps.one (show Kd.M (Kd.int .i64) _ _ _ t259 [.int .i64 t259] from rfl) (Reps.none _ _))))))); intro v263 w42 ho43 hb hg_ hnew_; clear hg_ hnew_; (first | rw [← Ny262.out] at ho43 | (simp only [Int.reduceToNat] at ho43; rw [← Ny262.out] at ho43)); have HO264 := Aside0.mk (Kd.R_lower ho43 (keep_size (w := w) (g := g) (row := none) (kl))); replace BK258 := bb BK258 hb; replace HK := Aside0.mk (KeepBut.trans (kl) (KeepBut.of_below hb g none) (.inl rfl)); replace HB := Aside0.mk (below_step IsS101.b hb); replace HI0 := Aside0.mk (IsS101.below (IsS101.a) hb); clear hb ho43; obtain ⟨Ao44, co44, eo44⟩ := Kd.R_slice HO264.out; subst eo44) | ((with_reducible refine zf 46 rfl ?_); refine g1 (some 11) Try.func46 #[.pointer (some ⟨g, 0, none⟩), .slice Ao44 y262.length co44] ?_; (with_reducible refine (spec_l01Pick.calls g s0_0 t260 t261 _ _ y262 t265 t266 t267 w0 _ ?side1 ?side2 ?side3 ?side4 ?side5 A4.out).mono ?_); (case side1 => exact IsS101.a); (case side2 => exact IsS101.b); (case side3 => repeat (first | exact (Kd.R_reads' HO264.out).2.2 | (with_reducible refine Kd.C_alloc ?_ _) | (with_reducible refine Kd.C_drewN ?_ _) | (with_reducible refine Kd.C_drew ?_))); (case side4 => exact (Kd.R_reads' HO264.out).2.1); (case side5 => exact far_slice (IsS101.own_ne HI0.out HO264.out (by decide))); rintro e w45 ⟨rfl, hi, hb, hk⟩; refine ⟨_, rfl, ?_⟩; replace BK258 := kb hk BK258 NB258_0; replace HO264 := Aside0.mk (Kd.R_mono (Kd.R_keep (IsS101.apart (IsS101.a : IsS101 w0 _ g s0_0 t260 t261) (by (with_reducible repeat (first | apply Kd.R_alloc | apply Kd.R_drewN | apply Kd.R_drew)); exact HO264.out) (by decide)) hk (fun _ h => h.2)) (fun _ h => h.1)); replace HK := Aside0.mk (KeepBut.trans (kl) hk (.inl rfl)); replace HI0 := Aside0.mk (hi); replace HB := Aside0.mk (hb); (try clear hb hk)) | ((with_reducible refine zf 47 rfl ?_); refine g1 (some 14) Try.func47 #[.pointer (some ⟨g, 0, none⟩), .int .i64 13] ?_; (with_reducible refine (spec_l01Next.calls g s0_0 t266 t267 13 t268 t269 t270 w0 _ ?side1 ?side2 A5.out).mono ?_); (case side1 => exact IsS101.a); (case side2 => exact IsS101.b); rintro e w46 ⟨rfl, hi, hb, hk⟩; refine ⟨_, rfl, ?_⟩; replace BK258 := kb hk BK258 NB258_0; replace HO264 := Aside0.mk (Kd.R_mono (Kd.R_keep (IsS101.apart (IsS101.a : IsS101 w0 _ g s0_0 t266 t267) (by (with_reducible repeat (first | apply Kd.R_alloc | apply Kd.R_drewN | apply Kd.R_drew)); exact HO264.out) (by decide)) hk (fun _ h => h.2)) (fun _ h => h.1)); replace HK := Aside0.mk (KeepBut.trans (kl) hk (.inl rfl)); replace HI0 := Aside0.mk (hi); replace HB := Aside0.mk (hb); (try clear hb hk)) | ((with_reducible refine zg 15 rfl ?_); refine Kd.R_lit (Kd.int .i64) _ 2 ?hg (N := 15) ?hd (xs := ([0, 1, 2, 3, t268] : List Int)) (inner := [.int .i64 0, .int .i64 1, .int .i64 2, .int .i64 3, .int .i64 t268]) (ok := fun _ => True) (okp := fun _ => True) ?hr ?hp (fun _ hk => hk) trivial (Below.refl _ _) (Nat.le_refl _) (by simp) ?_; (case hd => rfl); (case hg => rfl); (case hr => first | (go_simp; done) | (go_simp; rfl)); (case hp => exact (Reps.one (show Kd.M (Kd.int .i64) _ _ _ 0 [.int .i64 0] from rfl) (Reps.one (show Kd.M (Kd.int .i64) _ _ _ 1 [.int .i64 1] from rfl) (Reps.one (show Kd.M (Kd.int .i64) _ _ _ 2 [.int .i64 2] from rfl) (Reps.one (show Kd.M (Kd.int .i64) _ _ _ 3 [.int .i64 3] from rfl) (Reps.one (show Kd.M (Kd.int .i64) _ _ _ t268 [.int .i64 t268] from rfl) (Reps.none _ _))))))); intro v272 w47 ho48 hb hg_ hnew_; clear hg_ hnew_; (first | rw [← Ny271.out] at ho48 | (simp only [Int.reduceToNat] at ho48; rw [← Ny271.out] at ho48)); have HO273 := Aside0.mk (Kd.R_lower (Kd.R_new' ho48 (Kd.R_lt (by (with_reducible repeat (first | apply Kd.R_alloc | apply Kd.R_drewN | apply Kd.R_drew)); exact HO264.out))) (keep_size (w := w) (g := g) (row := none) (kl))); replace HO264 := Aside0.mk (Kd.R_elder' (by (with_reducible repeat (first | apply Kd.R_alloc | apply Kd.R_drewN | apply Kd.R_drew)); exact HO264.out) (Kd.R_base ho48) hb); replace BK258 := bb BK258 hb; replace HK := Aside0.mk (KeepBut.trans (kl) (KeepBut.of_below hb g none) (.inl rfl)); replace HB := Aside0.mk (below_step IsS101.b hb); replace HI0 := Aside0.mk (IsS101.below (IsS101.a) hb); clear hb ho48; obtain ⟨Ao49, co49, eo49⟩ := Kd.R_slice HO273.out; subst eo49) | ((with_reducible refine zf 46 rfl ?_); refine g1 (some 16) Try.func46 #[.pointer (some ⟨g, 0, none⟩), .slice Ao49 y271.length co49] ?_; (with_reducible refine (spec_l01Pick.calls g s0_0 t269 t270 _ _ y271 t274 t275 t276 w0 _ ?side1 ?side2 ?side3 ?side4 ?side5 A6.out).mono ?_); (case side1 => exact IsS101.a); (case side2 => exact IsS101.b); (case side3 => repeat (first | exact (Kd.R_reads' HO273.out).2.2 | (with_reducible refine Kd.C_alloc ?_ _) | (with_reducible refine Kd.C_drewN ?_ _) | (with_reducible refine Kd.C_drew ?_))); (case side4 => exact (Kd.R_reads' HO273.out).2.1); (case side5 => exact far_slice (IsS101.own_ne HI0.out HO273.out (by decide))); rintro e w50 ⟨rfl, hi, hb, hk⟩; refine ⟨_, rfl, ?_⟩; replace BK258 := kb hk BK258 NB258_0; replace HO264 := Aside0.mk (Kd.R_mono (Kd.R_keep (IsS101.apart (IsS101.a : IsS101 w0 _ g s0_0 t269 t270) (by (with_reducible repeat (first | apply Kd.R_alloc | apply Kd.R_drewN | apply Kd.R_drew)); exact HO264.out) (by decide)) hk (fun _ h => h.2)) (fun _ h => h.1)); replace HO273 := Aside0.mk (Kd.R_mono (Kd.R_keep (IsS101.apart (IsS101.a : IsS101 w0 _ g s0_0 t269 t270) (by (with_reducible repeat (first | apply Kd.R_alloc | apply Kd.R_drewN | apply Kd.R_drew)); exact HO273.out) (by decide)) hk (fun _ h => h.2)) (fun _ h => h.1)); replace HK := Aside0.mk (KeepBut.trans (kl) hk (.inl rfl)); replace HI0 := Aside0.mk (hi); replace HB := Aside0.mk (hb); (try clear hb hk)) | ((with_reducible refine zg 5 rfl ?_); refine z3 5 27 0 0 0 ?_; intro gb277 hg w51 BK277 hb; have GW277 := Aside0.mk ((by rw [hg]; exact (keep_size (w := w) (g := g) (row := none) (kl)) : w.heap.size ≤ gb277)); have GE277 := Aside0.mk ((Nat.le_trans HW0.out (by rw [hg]; exact (keep_size (w := w) (g := g) (row := none) (kl)) : w.heap.size ≤ gb277) : w0.heap.size ≤ gb277)); have NB258_277 := nl hg BK258; have NB0_277 := Aside0.mk ((by rw [hg]; exact Nat.ne_of_lt (IsS101.lt (IsS101.a : IsS101 w0 _ g s0_0 t275 t276)) : g ≠ gb277)); have NB277_0 := Aside0.mk ((by rw [hg]; exact Nat.ne_of_gt (IsS101.lt (IsS101.a : IsS101 w0 _ g s0_0 t275 t276)) : gb277 ≠ g)); replace HO264 := Aside0.mk (Kd.R_below (by (with_reducible repeat (first | apply Kd.R_alloc | apply Kd.R_drewN | apply Kd.R_drew)); exact HO264.out) hb); replace HO273 := Aside0.mk (Kd.R_below (by (with_reducible repeat (first | apply Kd.R_alloc | apply Kd.R_drewN | apply Kd.R_drew)); exact HO273.out) hb); replace BK258 := bb BK258 hb; replace HK := Aside0.mk (KeepBut.trans (kl) (KeepBut.of_below hb g none) (.inl rfl)); replace HB := Aside0.mk (below_step IsS101.b hb); replace HI0 := Aside0.mk (IsS101.below (IsS101.a) hb); clear hb hg; obtain ⟨hnb52, hnc52⟩ := zm NB258_277; have hnb53 := NB277_0.out; have hnc53 := NB0_277.out; obtain ⟨hcz54_0, hcz54_1, hcz54_2, hfz54_0, hfz54_1, hfz54_2⟩ := cq3 BK277) | ((with_reducible refine zf 34 rfl ?_); refine g1 (some 21) Try.func34 #[.int .i64 a1, .int .i64 t265] ?_; (with_reducible refine (spec_l01Power.calls k a1 t265 t278 _ A7.out).mono ?_); rintro e w' ⟨rfl, ⟨nd, rfl⟩⟩; refine ⟨_, rfl, ?_⟩) | ((with_reducible refine zf 47 rfl ?_); refine g1 (some 24) Try.func47 #[.pointer (some ⟨g, 0, none⟩), .int .i64 t278] ?_; (with_reducible refine (spec_l01Next.calls g s0_0 t275 t276 t278 t279 t280 t281 w0 _ ?side1 ?side2 A8.out).mono ?_); (case side1 => exact IsS101.a); (case side2 => exact IsS101.b); rintro e w55 ⟨rfl, hi, hb, hk⟩; refine ⟨_, rfl, ?_⟩; replace BK258 := Aside0.mk (KeepBut.blk hk (g' := gb258) (o := .cells #[.int .i64 0, .int .i64 0, .int .i64 0] 27 (0, 0)) (bp) NB258_0.out (by simp)); replace HO264 := Aside0.mk (Kd.R_mono (Kd.R_keep (IsS101.apart (IsS101.a : IsS101 w0 _ g s0_0 t275 t276) (by (with_reducible repeat (first | apply Kd.R_alloc | apply Kd.R_drewN | apply Kd.R_drew)); exact (Kd.R_mono (Kd.R_far (p := ⟨gb277, 2, none⟩) (Kd.R_far (p := ⟨gb277, 1, none⟩) (Kd.R_far (p := ⟨gb277, 0, none⟩) (Kd.R_types HO264.out BK277.out (by decide)) (fun _ hk => hk.2) (.int .i64 t265)) (fun _ hk => hk.2) (.int .i64 0)) (fun _ hk => hk.2) (.int .i64 t274)) (fun _ h_ => h_.1))) (by decide)) hk (fun _ h => h.2)) (fun _ h => h.1)); replace HO273 := Aside0.mk (Kd.R_mono (Kd.R_keep (IsS101.apart (IsS101.a : IsS101 w0 _ g s0_0 t275 t276) (by (with_reducible repeat (first | apply Kd.R_alloc | apply Kd.R_drewN | apply Kd.R_drew)); exact (Kd.R_mono (Kd.R_far (p := ⟨gb277, 2, none⟩) (Kd.R_far (p := ⟨gb277, 1, none⟩) (Kd.R_far (p := ⟨gb277, 0, none⟩) (Kd.R_types HO273.out BK277.out (by decide)) (fun _ hk => hk.2) (.int .i64 t265)) (fun _ hk => hk.2) (.int .i64 0)) (fun _ hk => hk.2) (.int .i64 t274)) (fun _ h_ => h_.1))) (by decide)) hk (fun _ h => h.2)) (fun _ h => h.1)); replace BK277 := Aside0.mk (KeepBut.blk hk (g' := gb277) (o := .cells #[.int .i64 t265, .int .i64 0, .int .i64 t274] 27 (0, 0)) (bp) NB277_0.out (by simp)); replace HK := Aside0.mk (KeepBut.trans (kl) hk (.inl rfl)); replace HI0 := Aside0.mk (hi); replace HB := Aside0.mk (hb); (try clear hb hk); obtain ⟨hcz56_0, hcz56_1, hcz56_2, hfz56_0, hfz56_1, hfz56_2⟩ := cq3 BK277) | ((with_reducible refine zf 47 rfl ?_); refine g1 (some 27) Try.func47 #[.pointer (some ⟨g, 0, none⟩), .int .i64 3] ?_; (with_reducible refine (spec_l01Next.calls g s0_0 t280 t281 3 t282 t283 t284 w0 _ ?side1 ?side2 A9.out).mono ?_); (case side1 => exact IsS101.a); (case side2 => exact IsS101.b); rintro e w57 ⟨rfl, hi, hb, hk⟩; refine ⟨_, rfl, ?_⟩; replace BK258 := Aside0.mk (KeepBut.blk hk (g' := gb258) (o := .cells #[.int .i64 0, .int .i64 0, .int .i64 0] 27 (0, 0)) (bp) NB258_0.out (by simp)); replace HO264 := Aside0.mk (Kd.R_mono (Kd.R_keep (IsS101.apart (IsS101.a : IsS101 w0 _ g s0_0 t280 t281) (by (with_reducible repeat (first | apply Kd.R_alloc | apply Kd.R_drewN | apply Kd.R_drew)); exact (Kd.R_mono (Kd.R_far (p := ⟨gb277, 1, none⟩) (Kd.R_types HO264.out BK277.out (by decide)) (fun _ hk => hk.2) (.int .i64 t279)) (fun _ h_ => h_.1))) (by decide)) hk (fun _ h => h.2)) (fun _ h => h.1)); replace HO273 := Aside0.mk (Kd.R_mono (Kd.R_keep (IsS101.apart (IsS101.a : IsS101 w0 _ g s0_0 t280 t281) (by (with_reducible repeat (first | apply Kd.R_alloc | apply Kd.R_drewN | apply Kd.R_drew)); exact (Kd.R_mono (Kd.R_far (p := ⟨gb277, 1, none⟩) (Kd.R_types HO273.out BK277.out (by decide)) (fun _ hk => hk.2) (.int .i64 t279)) (fun _ h_ => h_.1))) (by decide)) hk (fun _ h => h.2)) (fun _ h => h.1)); replace BK277 := Aside0.mk (KeepBut.blk hk (g' := gb277) (o := .cells #[.int .i64 t265, .int .i64 t279, .int .i64 t274] 27 (0, 0)) (bp) NB277_0.out (by simp)); replace HK := Aside0.mk (KeepBut.trans (kl) hk (.inl rfl)); replace HI0 := Aside0.mk (hi); replace HB := Aside0.mk (hb); (try clear hb hk); obtain ⟨hcz58_0, hcz58_1, hcz58_2, hfz58_0, hfz58_1, hfz58_2⟩ := cq3 BK277; have hnb59 := NB258_0.out; have hnc59 := NB0_258.out; obtain ⟨hcz60_0, hcz60_1, hcz60_2, hfz60_0, hfz60_1, hfz60_2⟩ := cq3 BK258))
  refine bodyPost_ret (results_cell_row rfl _ _ gb258 27 #[.int .i64 t265, .int .i64 t279, .int .i64 t274] (0, 0) _ rfl (bp) Try.underlying27 rfl (by kernel_rfl)) rfl ?_
  exact ⟨er, IsS101.a, IsS101.b, kl⟩

end Go.Proofs.Ytkfodnlogflcpaa.PFnLattices

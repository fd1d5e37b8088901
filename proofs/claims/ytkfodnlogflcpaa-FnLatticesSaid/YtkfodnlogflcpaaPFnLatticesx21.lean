-- Printed by the kit's print and repaired by a program of this session.
import Derived.Test.YtkfodnlogflcpaaPFnLatticesx0
import Derived.Test.YtkfodnlogflcpaaPFnLatticesx3
import Derived.Test.YtkfodnlogflcpaaPFnLatticesx6
import Derived.Test.YtkfodnlogflcpaaPFnLatticesx11
namespace Go.Proofs.Ytkfodnlogflcpaa.PFnLattices
open Go.RowKit Go.Proofs.YtkfodnlogflcpaaW.PrintWords Go.Proofs.YtkfodnlogflcpaaW.PrintLast Go.Proofs.YtkfodnlogflcpaaW.PrintMore
attribute [local go_sem] max2_int min2_int max_two min_two max_three min_three max_four min_four
set_option linter.unusedVariables false
set_option linter.unusedSimpArgs false

/-! ### spec_l03Vector: function 69 -/
def spec_l03Vector.f (k : Nat) (a0 : Int) (a1_0 : Int) (a1_1 : Int) (a1_2 : Int) (a2 : Int) (a3 : Int) : Option (Bool) := (spec_l01Power.f k a0 a1_2).bind fun t771 => (if t771 = 0 then (none) else (if (Int.tmod a3 t771) = 0 then ((spec_l01Power.f k a0 a1_0).bind fun t772 => ((spec_l01MulMod.f (wrap64 (Int.tdiv a3 t771)) a1_1 t772).bind fun t773 => (if t772 = 0 then (none) else (some (t773 == (Int.tmod (wrap64 ((Int.tmod a2 t772) + t772)) t772)))))) else (some false)))
set_option maxHeartbeats 8000000 in
set_option maxRecDepth 100000 in
theorem spec_l03Vector.calls (k : Nat) (a0 : Int) (a1_0 : Int) (a1_1 : Int) (a1_2 : Int) (a2 : Int) (a3 : Int) (r : Bool) (w : World) (h : spec_l03Vector.f k a0 a1_0 a1_1 a1_2 a2 a3 = some r) :
  Calls Try.prog 69 #[.int .i64 a0, .agg #[.int .i64 a1_0, .int .i64 a1_1, .int .i64 a1_2], .int .i64 a2, .int .i64 a3] w fun e w' => e = .returned (.bool r) ∧ Below w.heap.size w w' := by
 have hu27 := Try.underlying27
 have HB := Aside0.mk (Below.refl w.heap.size w)
 unfold spec_l03Vector.f at h
 have H := h
 clear h
 replace H := zi H
 obtain ⟨t771, A5, H⟩ := H
 try dsimp only at H
 replace H := ii H
 rcases H with ⟨c6, H⟩ | ⟨c6, H⟩
 ·exact absurd H (by simp)
 ·obtain ⟨c6b0, c6b1⟩ := zy c6
  replace H := ii H
  rcases H with ⟨c7, H⟩ | ⟨c7, H⟩
  ·obtain ⟨c7b0, c7b1⟩ := zz c7
   clear c7
   replace H := zi H
   obtain ⟨t772, A8, H⟩ := H
   try dsimp only at H
   replace H := zi H
   obtain ⟨t773, A9, H⟩ := H
   try dsimp only at H
   replace H := ii H
   rcases H with ⟨c10, H⟩ | ⟨c10, H⟩
   ·exact absurd H (by simp)
   ·obtain ⟨c10b0, c10b1⟩ := zy c10
    obtain rfl := Option.some.inj H
    go_enter Try.func69, Try.ntmps69
    go_wp2_with (first | ((with_reducible refine zg 5 rfl ?_); refine z3 5 27 a1_0 a1_1 a1_2 ?_; intro gb770 hg w11 BK770 hb; have GW770 := sg hg; replace HB := bs hb; clear hb hg; obtain ⟨hcz12_0, hcz12_1, hcz12_2, hfz12_0, hfz12_1, hfz12_2⟩ := cq3 BK770) | (go_at_call 34; (with_reducible refine (spec_l01Power.calls k a0 a1_2 t771 _ A5.out).mono ?_); rintro e w' ⟨rfl, ⟨nd, rfl⟩⟩; (try first | exact zd | exact ze)) | (go_at_call 34; (with_reducible refine (spec_l01Power.calls k a0 a1_0 t772 _ A8.out).mono ?_); rintro e w' ⟨rfl, ⟨nd, rfl⟩⟩; (try first | exact zd | exact ze)) | (go_at_call 35; (with_reducible refine (spec_l01MulMod.calls (wrap64 (Int.tdiv a3 t771)) a1_1 t772 t773 _ A9.out).mono ?_); rintro e w' ⟨rfl, ⟨nd, rfl⟩⟩; (try first | exact zd | exact ze)))
    repeat (go_quiet (first | (go_at_call 34; (with_reducible refine (spec_l01Power.calls k a0 a1_2 t771 _ A5.out).mono ?_); rintro e w' ⟨rfl, ⟨nd, rfl⟩⟩; (try first | exact zd | exact ze)) | (go_at_call 34; (with_reducible refine (spec_l01Power.calls k a0 a1_0 t772 _ A8.out).mono ?_); rintro e w' ⟨rfl, ⟨nd, rfl⟩⟩; (try first | exact zd | exact ze)) | (go_at_call 35; (with_reducible refine (spec_l01MulMod.calls (wrap64 (Int.tdiv a3 t771)) a1_1 t772 t773 _ A9.out).mono ?_); rintro e w' ⟨rfl, ⟨nd, rfl⟩⟩; (try first | exact zd | exact ze))); try go_wp2_with (first | ((with_reducible refine zg 5 rfl ?_); refine z3 5 27 a1_0 a1_1 a1_2 ?_; intro gb770 hg w11 BK770 hb; have GW770 := sg hg; replace HB := bs hb; clear hb hg; obtain ⟨hcz12_0, hcz12_1, hcz12_2, hfz12_0, hfz12_1, hfz12_2⟩ := cq3 BK770) | (go_at_call 34; (with_reducible refine (spec_l01Power.calls k a0 a1_2 t771 _ A5.out).mono ?_); rintro e w' ⟨rfl, ⟨nd, rfl⟩⟩; (try first | exact zd | exact ze)) | (go_at_call 34; (with_reducible refine (spec_l01Power.calls k a0 a1_0 t772 _ A8.out).mono ?_); rintro e w' ⟨rfl, ⟨nd, rfl⟩⟩; (try first | exact zd | exact ze)) | (go_at_call 35; (with_reducible refine (spec_l01MulMod.calls (wrap64 (Int.tdiv a3 t771)) a1_1 t772 t773 _ A9.out).mono ?_); rintro e w' ⟨rfl, ⟨nd, rfl⟩⟩; (try first | exact zd | exact ze))))
    go_ret
    exact ⟨er, bl⟩
  ·obtain ⟨c7b0, c7b1⟩ := zy c7
   obtain rfl := Option.some.inj H
   go_enter Try.func69, Try.ntmps69
   go_wp2_with (first | ((with_reducible refine zg 5 rfl ?_); refine z3 5 27 a1_0 a1_1 a1_2 ?_; intro gb770 hg w13 BK770 hb; have GW770 := sg hg; replace HB := bs hb; clear hb hg; obtain ⟨hcz14_0, hcz14_1, hcz14_2, hfz14_0, hfz14_1, hfz14_2⟩ := cq3 BK770) | (go_at_call 34; (with_reducible refine (spec_l01Power.calls k a0 a1_2 t771 _ A5.out).mono ?_); rintro e w' ⟨rfl, ⟨nd, rfl⟩⟩; (try first | exact zd | exact ze)))
   go_ret
   exact ⟨er, bl⟩

/-! ### spec_HoldsVector: function 31 -/
def spec_HoldsVector.f (k : Nat) (a0 : Int) (a1_0 : Int) (a1_1 : Int) (a1_2 : Int) (a2 : Int) (a3 : Int) : Option (Bool × Int) := (spec_l03Code.f k a0 (([(⟨a1_0, a1_1, a1_2⟩ : S27)] : List (S27)))).bind fun t778 => (if t778 = 0 then ((spec_l01In.f a2 (-1000000) 1000000).bind fun t779 => (if t779 = true then ((spec_l01In.f a3 (-1000000) 1000000).bind fun t780 => (if t780 = true then ((spec_l03Vector.f k a0 a1_0 a1_1 a1_2 a2 a3).bind fun t781 => (some (t781, 0))) else (some (false, 2)))) else (some (false, 2)))) else (some (false, t778)))
set_option maxHeartbeats 8000000 in
set_option maxRecDepth 100000 in
theorem spec_HoldsVector.calls (k : Nat) (a0 : Int) (a1_0 : Int) (a1_1 : Int) (a1_2 : Int) (a2 : Int) (a3 : Int) (r1 : Bool) (r2 : Int) (w : World) (h : spec_HoldsVector.f k a0 a1_0 a1_1 a1_2 a2 a3 = some (r1, r2)) :
  Calls Try.prog 31 #[.int .i64 a0, .agg #[.int .i64 a1_0, .int .i64 a1_1, .int .i64 a1_2], .int .i64 a2, .int .i64 a3] w fun e w' => e = .returned (.tuple #[.bool r1, .int .i64 r2]) ∧ Below w.heap.size w w' := by
 have hu27 := Try.underlying27
 have HB := Aside0.mk (Below.refl w.heap.size w)
 unfold spec_HoldsVector.f at h
 have H := h
 clear h
 obtain ⟨y775, hy775⟩ : ∃ y_ : List (S27), y_ = (([(⟨a1_0, a1_1, a1_2⟩ : S27)] : List (S27))) := ⟨_, rfl⟩
 replace H : ((spec_l03Code.f k a0 y775).bind fun t778 => (if t778 = 0 then ((spec_l01In.f a2 (-1000000) 1000000).bind fun t779 => (if t779 = true then ((spec_l01In.f a3 (-1000000) 1000000).bind fun t780 => (if t780 = true then ((spec_l03Vector.f k a0 a1_0 a1_1 a1_2 a2 a3).bind fun t781 => (some (t781, 0))) else (some (false, 2)))) else (some (false, 2)))) else (some (false, t778)))) = some (r1, r2) := by first | exact hy775 ▸ H | exact H
 have Ny775 := Aside0.mk hy775
 clear hy775
 replace H := zi H
 obtain ⟨t778, A5, H⟩ := H
 try dsimp only at H
 replace H := ii H
 rcases H with ⟨c6, H⟩ | ⟨c6, H⟩
 ·obtain ⟨c6b0, c6b1⟩ := zz c6
  clear c6
  replace H := zi H
  obtain ⟨t779, A7, H⟩ := H
  try dsimp only at H
  by_cases c8 : t779 = true
  ·subst c8
   rw [if_pos rfl] at H
   replace H := zi H
   obtain ⟨t780, A9, H⟩ := H
   try dsimp only at H
   by_cases c10 : t780 = true
   ·subst c10
    rw [if_pos rfl] at H
    replace H := zi H
    obtain ⟨t781, A11, H⟩ := H
    try dsimp only at H
    simp only [Option.some.injEq, Prod.mk.injEq] at H
    obtain ⟨rfl, rfl⟩ := H
    go_enter Try.func31, Try.ntmps31
    go_wp2_with (first | ((with_reducible refine zg 5 rfl ?_); refine z3 5 27 a1_0 a1_1 a1_2 ?_; intro gb774 hg w12 BK774 hb; have GW774 := sg hg; replace HB := bs hb; clear hb hg; obtain ⟨hcz13_0, hcz13_1, hcz13_2, hfz13_0, hfz13_1, hfz13_2⟩ := cq3 BK774) | ((with_reducible refine zg 13 rfl ?_); refine Kd.R_lit k27 _ 27 ?hg (N := 13) ?hd (xs := ([(⟨a1_0, a1_1, a1_2⟩ : S27)] : List (S27))) (inner := [.int .i64 a1_0, .int .i64 a1_1, .int .i64 a1_2]) (ok := fun _ => True) (okp := fun _ => True) ?hr ?hp (fun _ hk => hk) trivial (Below.refl _ _) (Nat.le_refl _) (by simp) ?_; (case hd => rfl); (case hg => rfl); (case hr => first | (go_simp; done) | (go_simp; rfl)); (case hp => exact (Reps.c3 (show Kd.M k27 _ _ _ (⟨a1_0, a1_1, a1_2⟩ : S27) [.int .i64 a1_0, .int .i64 a1_1, .int .i64 a1_2] from (k27_mkM _ _ _ (⟨a1_0, a1_1, a1_2⟩ : S27) )) (Reps.none _ _))); intro v776 w14 ho15 hb hg_ hnew_; clear hg_ hnew_; (first | rw [← Ny775.out] at ho15 | (simp only [Int.reduceToNat] at ho15; rw [← Ny775.out] at ho15)); have HO777 := Aside0.mk (Kd.R_lower (Kd.R_newB ho15 (g := gb774) (o := .cells #[.int .i64 a1_0, .int .i64 a1_1, .int .i64 a1_2] 27 (0, 0)) (be BK774)) (below_size (bl))); replace BK774 := bb BK774 hb; replace HB := bs hb; clear hb ho15; obtain ⟨Ao16, co16, eo16⟩ := Kd.R_slice HO777.out; subst eo16) | ((with_reducible refine zf 32 rfl ?_); refine g1 (some 14) Try.func32 #[.int .i64 a0, .slice Ao16 y775.length co16] ?_; (with_reducible refine (spec_l03Code.calls k a0 _ _ y775 t778 _ ?side1 ?side2 A5.out).mono ?_); (case side1 => repeat (first | exact (Kd.R_reads' HO777.out).2.2 | (with_reducible refine Kd.C_alloc ?_ _) | (with_reducible refine Kd.C_drewN ?_ _) | (with_reducible refine Kd.C_drew ?_))); (case side2 => exact (Kd.R_reads' HO777.out).2.1); rintro e w17 ⟨rfl, hb⟩; refine ⟨_, rfl, ?_⟩; replace HO777 := Aside0.mk (Kd.R_below (by (with_reducible repeat (first | apply Kd.R_alloc | apply Kd.R_drewN | apply Kd.R_drew)); exact HO777.out) hb); replace BK774 := bb BK774 hb; replace HB := bs hb; (try clear hb)) | ((with_reducible refine zf 33 rfl ?_); refine g1 (some 19) Try.func33 #[.int .i64 a2, .int .i64 (-1000000), .int .i64 1000000] ?_; (with_reducible refine (spec_l01In.calls a2 (-1000000) 1000000 true _ A7.out).mono ?_); rintro e w' ⟨rfl, ⟨nd, rfl⟩⟩; refine ⟨_, rfl, ?_⟩) | (go_at_call 33; (with_reducible refine (spec_l01In.calls a3 (-1000000) 1000000 true _ A9.out).mono ?_); rintro e w' ⟨rfl, ⟨nd, rfl⟩⟩; obtain ⟨hcz18_0, hcz18_1, hcz18_2, hfz18_0, hfz18_1, hfz18_2⟩ := cq3 BK774) | ((with_reducible refine zf 69 rfl ?_); refine g1 (some 30) Try.func69 #[.int .i64 a0, .agg #[.int .i64 a1_0, .int .i64 a1_1, .int .i64 a1_2], .int .i64 a2, .int .i64 a3] ?_; (with_reducible refine (spec_l03Vector.calls k a0 a1_0 a1_1 a1_2 a2 a3 t781 _ A11.out).mono ?_); rintro e w19 ⟨rfl, hb⟩; refine ⟨_, rfl, ?_⟩; replace HO777 := Aside0.mk (Kd.R_below (by (with_reducible repeat (first | apply Kd.R_alloc | apply Kd.R_drewN | apply Kd.R_drew)); exact HO777.out) hb); replace BK774 := bb BK774 hb; replace HB := bs hb; (try clear hb)))
    go_ret2
    exact ⟨er, bl⟩
   ·replace c10 := Bool.eq_false_iff.mpr c10
    subst c10
    have H1 : (some (false, 2)) = some (r1, r2) := by rw [if_neg (show ¬ (false = true) by decide)] at H; exact H
    clear H
    have H := H1
    clear H1
    simp only [Option.some.injEq, Prod.mk.injEq] at H
    obtain ⟨rfl, rfl⟩ := H
    go_enter Try.func31, Try.ntmps31
    go_wp2_with (first | ((with_reducible refine zg 5 rfl ?_); refine z3 5 27 a1_0 a1_1 a1_2 ?_; intro gb774 hg w20 BK774 hb; have GW774 := sg hg; replace HB := bs hb; clear hb hg; obtain ⟨hcz21_0, hcz21_1, hcz21_2, hfz21_0, hfz21_1, hfz21_2⟩ := cq3 BK774) | ((with_reducible refine zg 13 rfl ?_); refine Kd.R_lit k27 _ 27 ?hg (N := 13) ?hd (xs := ([(⟨a1_0, a1_1, a1_2⟩ : S27)] : List (S27))) (inner := [.int .i64 a1_0, .int .i64 a1_1, .int .i64 a1_2]) (ok := fun _ => True) (okp := fun _ => True) ?hr ?hp (fun _ hk => hk) trivial (Below.refl _ _) (Nat.le_refl _) (by simp) ?_; (case hd => rfl); (case hg => rfl); (case hr => first | (go_simp; done) | (go_simp; rfl)); (case hp => exact (Reps.c3 (show Kd.M k27 _ _ _ (⟨a1_0, a1_1, a1_2⟩ : S27) [.int .i64 a1_0, .int .i64 a1_1, .int .i64 a1_2] from (k27_mkM _ _ _ (⟨a1_0, a1_1, a1_2⟩ : S27) )) (Reps.none _ _))); intro v776 w22 ho23 hb hg_ hnew_; clear hg_ hnew_; (first | rw [← Ny775.out] at ho23 | (simp only [Int.reduceToNat] at ho23; rw [← Ny775.out] at ho23)); have HO777 := Aside0.mk (Kd.R_lower (Kd.R_newB ho23 (g := gb774) (o := .cells #[.int .i64 a1_0, .int .i64 a1_1, .int .i64 a1_2] 27 (0, 0)) (be BK774)) (below_size (bl))); replace BK774 := bb BK774 hb; replace HB := bs hb; clear hb ho23; obtain ⟨Ao24, co24, eo24⟩ := Kd.R_slice HO777.out; subst eo24) | ((with_reducible refine zf 32 rfl ?_); refine g1 (some 14) Try.func32 #[.int .i64 a0, .slice Ao24 y775.length co24] ?_; (with_reducible refine (spec_l03Code.calls k a0 _ _ y775 t778 _ ?side1 ?side2 A5.out).mono ?_); (case side1 => repeat (first | exact (Kd.R_reads' HO777.out).2.2 | (with_reducible refine Kd.C_alloc ?_ _) | (with_reducible refine Kd.C_drewN ?_ _) | (with_reducible refine Kd.C_drew ?_))); (case side2 => exact (Kd.R_reads' HO777.out).2.1); rintro e w25 ⟨rfl, hb⟩; refine ⟨_, rfl, ?_⟩; replace HO777 := Aside0.mk (Kd.R_below (by (with_reducible repeat (first | apply Kd.R_alloc | apply Kd.R_drewN | apply Kd.R_drew)); exact HO777.out) hb); replace BK774 := bb BK774 hb; replace HB := bs hb; (try clear hb)) | ((with_reducible refine zf 33 rfl ?_); refine g1 (some 19) Try.func33 #[.int .i64 a2, .int .i64 (-1000000), .int .i64 1000000] ?_; (with_reducible refine (spec_l01In.calls a2 (-1000000) 1000000 true _ A7.out).mono ?_); rintro e w' ⟨rfl, ⟨nd, rfl⟩⟩; refine ⟨_, rfl, ?_⟩) | (go_at_call 33; (with_reducible refine (spec_l01In.calls a3 (-1000000) 1000000 false _ A9.out).mono ?_); rintro e w' ⟨rfl, ⟨nd, rfl⟩⟩))
    go_ret2
    exact ⟨er, bl⟩
  ·replace c8 := Bool.eq_false_iff.mpr c8
   subst c8
   have H1 : (some (false, 2)) = some (r1, r2) := by rw [if_neg (show ¬ (false = true) by decide)] at H; exact H
   clear H
   have H := H1
   clear H1
   simp only [Option.some.injEq, Prod.mk.injEq] at H
   obtain ⟨rfl, rfl⟩ := H
   go_enter Try.func31, Try.ntmps31
   go_wp2_with (first | ((with_reducible refine zg 5 rfl ?_); refine z3 5 27 a1_0 a1_1 a1_2 ?_; intro gb774 hg w26 BK774 hb; have GW774 := sg hg; replace HB := bs hb; clear hb hg; obtain ⟨hcz27_0, hcz27_1, hcz27_2, hfz27_0, hfz27_1, hfz27_2⟩ := cq3 BK774) | ((with_reducible refine zg 13 rfl ?_); refine Kd.R_lit k27 _ 27 ?hg (N := 13) ?hd (xs := ([(⟨a1_0, a1_1, a1_2⟩ : S27)] : List (S27))) (inner := [.int .i64 a1_0, .int .i64 a1_1, .int .i64 a1_2]) (ok := fun _ => True) (okp := fun _ => True) ?hr ?hp (fun _ hk => hk) trivial (Below.refl _ _) (Nat.le_refl _) (by simp) ?_; (case hd => rfl); (case hg => rfl); (case hr => first | (go_simp; done) | (go_simp; rfl)); (case hp => exact (Reps.c3 (show Kd.M k27 _ _ _ (⟨a1_0, a1_1, a1_2⟩ : S27) [.int .i64 a1_0, .int .i64 a1_1, .int .i64 a1_2] from (k27_mkM _ _ _ (⟨a1_0, a1_1, a1_2⟩ : S27) )) (Reps.none _ _))); intro v776 w28 ho29 hb hg_ hnew_; clear hg_ hnew_; (first | rw [← Ny775.out] at ho29 | (simp only [Int.reduceToNat] at ho29; rw [← Ny775.out] at ho29)); have HO777 := Aside0.mk (Kd.R_lower (Kd.R_newB ho29 (g := gb774) (o := .cells #[.int .i64 a1_0, .int .i64 a1_1, .int .i64 a1_2] 27 (0, 0)) (be BK774)) (below_size (bl))); replace BK774 := bb BK774 hb; replace HB := bs hb; clear hb ho29; obtain ⟨Ao30, co30, eo30⟩ := Kd.R_slice HO777.out; subst eo30) | ((with_reducible refine zf 32 rfl ?_); refine g1 (some 14) Try.func32 #[.int .i64 a0, .slice Ao30 y775.length co30] ?_; (with_reducible refine (spec_l03Code.calls k a0 _ _ y775 t778 _ ?side1 ?side2 A5.out).mono ?_); (case side1 => repeat (first | exact (Kd.R_reads' HO777.out).2.2 | (with_reducible refine Kd.C_alloc ?_ _) | (with_reducible refine Kd.C_drewN ?_ _) | (with_reducible refine Kd.C_drew ?_))); (case side2 => exact (Kd.R_reads' HO777.out).2.1); rintro e w31 ⟨rfl, hb⟩; refine ⟨_, rfl, ?_⟩; replace HO777 := Aside0.mk (Kd.R_below (by (with_reducible repeat (first | apply Kd.R_alloc | apply Kd.R_drewN | apply Kd.R_drew)); exact HO777.out) hb); replace BK774 := bb BK774 hb; replace HB := bs hb; (try clear hb)) | ((with_reducible refine zf 33 rfl ?_); refine g1 (some 19) Try.func33 #[.int .i64 a2, .int .i64 (-1000000), .int .i64 1000000] ?_; (with_reducible refine (spec_l01In.calls a2 (-1000000) 1000000 false _ A7.out).mono ?_); rintro e w' ⟨rfl, ⟨nd, rfl⟩⟩; refine ⟨_, rfl, ?_⟩))
   go_ret2
   exact ⟨er, bl⟩
 ·obtain ⟨c6b0, c6b1⟩ := zy c6
  simp only [Option.some.injEq, Prod.mk.injEq] at H
  obtain ⟨rfl, rfl⟩ := H
  go_enter Try.func31, Try.ntmps31
  go_wp2_with (first | ((with_reducible refine zg 5 rfl ?_); refine z3 5 27 a1_0 a1_1 a1_2 ?_; intro gb774 hg w32 BK774 hb; have GW774 := sg hg; replace HB := bs hb; clear hb hg; obtain ⟨hcz33_0, hcz33_1, hcz33_2, hfz33_0, hfz33_1, hfz33_2⟩ := cq3 BK774) | ((with_reducible refine zg 13 rfl ?_); refine Kd.R_lit k27 _ 27 ?hg (N := 13) ?hd (xs := ([(⟨a1_0, a1_1, a1_2⟩ : S27)] : List (S27))) (inner := [.int .i64 a1_0, .int .i64 a1_1, .int .i64 a1_2]) (ok := fun _ => True) (okp := fun _ => True) ?hr ?hp (fun _ hk => hk) trivial (Below.refl _ _) (Nat.le_refl _) (by simp) ?_; (case hd => rfl); (case hg => rfl); (case hr => first | (go_simp; done) | (go_simp; rfl)); (case hp => exact (Reps.c3 (show Kd.M k27 _ _ _ (⟨a1_0, a1_1, a1_2⟩ : S27) [.int .i64 a1_0, .int .i64 a1_1, .int .i64 a1_2] from (k27_mkM _ _ _ (⟨a1_0, a1_1, a1_2⟩ : S27) )) (Reps.none _ _))); intro v776 w34 ho35 hb hg_ hnew_; clear hg_ hnew_; (first | rw [← Ny775.out] at ho35 | (simp only [Int.reduceToNat] at ho35; rw [← Ny775.out] at ho35)); have HO777 := Aside0.mk (Kd.R_lower (Kd.R_newB ho35 (g := gb774) (o := .cells #[.int .i64 a1_0, .int .i64 a1_1, .int .i64 a1_2] 27 (0, 0)) (be BK774)) (below_size (bl))); replace BK774 := bb BK774 hb; replace HB := bs hb; clear hb ho35; obtain ⟨Ao36, co36, eo36⟩ := Kd.R_slice HO777.out; subst eo36) | ((with_reducible refine zf 32 rfl ?_); refine g1 (some 14) Try.func32 #[.int .i64 a0, .slice Ao36 y775.length co36] ?_; (with_reducible refine (spec_l03Code.calls k a0 _ _ y775 t778 _ ?side1 ?side2 A5.out).mono ?_); (case side1 => repeat (first | exact (Kd.R_reads' HO777.out).2.2 | (with_reducible refine Kd.C_alloc ?_ _) | (with_reducible refine Kd.C_drewN ?_ _) | (with_reducible refine Kd.C_drew ?_))); (case side2 => exact (Kd.R_reads' HO777.out).2.1); rintro e w37 ⟨rfl, hb⟩; refine ⟨_, rfl, ?_⟩; replace HO777 := Aside0.mk (Kd.R_below (by (with_reducible repeat (first | apply Kd.R_alloc | apply Kd.R_drewN | apply Kd.R_drew)); exact HO777.out) hb); replace BK774 := bb BK774 hb; replace HB := bs hb; (try clear hb)))
  go_ret2
  exact ⟨er, bl⟩

end Go.Proofs.Ytkfodnlogflcpaa.PFnLattices

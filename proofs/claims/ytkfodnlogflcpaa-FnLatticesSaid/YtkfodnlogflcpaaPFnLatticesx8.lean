-- Printed by the kit's print and repaired by a program of this session.
import Derived.Test.YtkfodnlogflcpaaPFnLatticesx0
import Derived.Test.YtkfodnlogflcpaaPFnLatticesx4
import Derived.Test.YtkfodnlogflcpaaPFnLatticesx5
namespace Go.Proofs.Ytkfodnlogflcpaa.PFnLattices
open Go.RowKit Go.Proofs.YtkfodnlogflcpaaW.PrintWords Go.Proofs.YtkfodnlogflcpaaW.PrintLast Go.Proofs.YtkfodnlogflcpaaW.PrintMore
attribute [local go_sem] max2_int min2_int max_two min_two max_three min_three max_four min_four
set_option linter.unusedVariables false
set_option linter.unusedSimpArgs false

/-! ### impl_IsLattice: function 18 -/
def impl_IsLattice.f (k : Nat) (a0 : Int) (a1_0 : Int) (a1_1 : Int) (a1_2 : Int) : Option (Bool) := (impl_isPrime.f a0).bind fun t229 => (if t229 = true then (if a1_0 ≥ 0 then (if a1_0 ≤ 12 then (if a1_2 ≥ 0 then (if a1_2 ≤ 12 then (if a1_1 ≥ 0 then ((impl_power.f k a0 a1_0).bind fun t230 => (some (decide (a1_1 < t230)))) else (some false)) else (some false)) else (some false)) else (some false)) else (some false)) else (some false))
def impl_IsLattice.T1 : Bool × List (List Nat × List Nat) := (true, [([], []), ([0], [0]), ([1, 1], [1]), ([2], [2]), ([3, 2], [2, 3]), ([4, 2], [2, 4]), ([2, 5], [2, 5]), ([6, 2], [6]), ([7], [7]), ([8, 7], [7, 8]), ([9, 7], [7, 9]), ([7, 10], [7, 10]), ([11, 7], [11]), ([12], [12]), ([13, 12], [12, 13]), ([14, 12], [12, 14]), ([12, 15], [12, 15]), ([16, 12], [16]), ([17], [17]), ([18, 17], [17, 18]), ([19, 17], [17, 19]), ([17, 20], [17, 20]), ([21, 17], [21]), ([22], [22]), ([23, 22], [22, 23]), ([24, 22], [22, 24]), ([22, 25], [22, 25]), ([26, 22], [26]), ([27], [27]), ([28, 27], [27, 28]), ([27], [27]), ([27], [27]), ([31, 27], [27, 31]), ([30, 32, 27, 27], [27, 30, 32]), ([29, 33, 27], [27, 29, 33]), ([27, 34], [27, 34]), ([35, 33, 0, 1, 2, 3, 4, 5, 6, 7, 8, 9, 10, 11, 12, 13, 14, 15, 16, 17, 18, 19, 20, 21, 22, 23, 24, 25, 26, 27, 28, 29, 30, 31, 32, 33, 34, 35], [35])])
def impl_IsLattice.B1 : List Nat := [0, 1, 3, 7, 15, 31, 63, 127, 255, 511, 1023, 2047, 4095, 8191, 16383, 32767, 65535, 131071, 262143, 524287, 1048575, 2097151, 4194303, 8388607, 16777215, 33554431, 67108863, 134217727, 268435455, 536870911, 268435455, 268435455, 2415919103, 7784628223, 17179869183, 34359738367, 68719476735]
theorem impl_IsLattice.tab1 : rtab .any (opsOf Try.f18 1) = impl_IsLattice.T1 := by kernel_rfl
theorem impl_IsLattice.bits1 : waitsOk impl_IsLattice.T1.2 impl_IsLattice.B1 = true := by kernel_rfl
set_option maxHeartbeats 8000000 in
set_option maxRecDepth 100000 in
theorem impl_IsLattice.calls (k : Nat) (a0 : Int) (a1_0 : Int) (a1_1 : Int) (a1_2 : Int) (r : Bool) (w : World) (h : impl_IsLattice.f k a0 a1_0 a1_1 a1_2 = some r) :
  Calls Try.prog 18 #[.int .i64 a0, .agg #[.int .i64 a1_0, .int .i64 a1_1, .int .i64 a1_2]] w fun e w' => e = .returned (.bool r) ∧ Below w.heap.size w w' := by
 have hu27 := Try.underlying27
 have HB := Aside0.mk (Below.refl w.heap.size w)
 unfold impl_IsLattice.f at h
 have H := h
 clear h
 replace H := zi H
 obtain ⟨t229, A3, H⟩ := H
 try dsimp only at H
 by_cases c4 : t229 = true
 ·subst c4
  rw [if_pos rfl] at H
  replace H := ii H
  rcases H with ⟨c5, H⟩ | ⟨c5, H⟩
  ·have c5b0 := decide_eq_true c5
   clear c5
   replace H := ii H
   rcases H with ⟨c6, H⟩ | ⟨c6, H⟩
   ·have c6b0 := decide_eq_true c6
    clear c6
    replace H := ii H
    rcases H with ⟨c7, H⟩ | ⟨c7, H⟩
    ·have c7b0 := decide_eq_true c7
     clear c7
     replace H := ii H
     rcases H with ⟨c8, H⟩ | ⟨c8, H⟩
     ·have c8b0 := decide_eq_true c8
      clear c8
      replace H := ii H
      rcases H with ⟨c9, H⟩ | ⟨c9, H⟩
      ·have c9b0 := decide_eq_true c9
       clear c9
       replace H := zi H
       obtain ⟨t230, A10, H⟩ := H
       try dsimp only at H
       obtain rfl := Option.some.inj H
       go_enter Try.func18, Try.ntmps18
       try go_wp2_with (first | ((with_reducible refine zg 3 rfl ?_); refine z3 3 27 a1_0 a1_1 a1_2 ?_; intro gb228 hg w11 BK228 hb; have GW228 := sg hg; replace HB := bs hb; clear hb hg))
       replace BK228 := Aside0.mk (blk_drew BK228.out)
       replace HB := Aside0.mk (below_drew1 HB.out)
       refine sw 37 (fun w' => w'.cell? ⟨gb228, 0, none⟩ = some (.int .i64 a1_0) ∧ w'.cell? ⟨gb228, 1, none⟩ = some (.int .i64 a1_1) ∧ w'.cell? ⟨gb228, 2, none⟩ = some (.int .i64 a1_2)) impl_IsLattice.tab1 impl_IsLattice.bits1 (e3 BK228) (fun hHeld HT_ HW_ => ?_)
       generalize w11.drew = w12 at BK228 HB hHeld ⊢
       refine pu 0 (some 5) (tA 37 1) HT_ ?_
       refine o1 1 (some 6) (tA 37 3) HT_ (fun K hK => ?_)
       refine gs Try.func48 #[.int .i64 a0] ?_
       with_reducible refine (impl_isPrime.calls a0 true _ A3.out).mono ?_
       rintro e w' ⟨rfl, ⟨nd, rfl⟩⟩
       refine ⟨_, rfl, ?_⟩
       refine hK.out _ _ (e3 BK228) (fun hHeld => ?_)
       clear hK K
       refine nm (some 6) ?_
       refine pu 2 (some 7) (tA 37 7) HT_ ?_
       refine pu 3 (some 8) (tA 37 15) HT_ ?_
       refine tk3 4 (some 9) (tA 37 31) HT_ HW_ hHeld ?_
       refine pu 5 (some 10) (tA 37 63) HT_ ?_
       refine pu 6 (some 11) (tA 37 127) HT_ ?_
       refine pu 7 (some 12) (tA 37 255) HT_ ?_
       refine pu 8 (some 13) (tA 37 511) HT_ ?_
       refine tk3 9 (some 14) (tA 37 1023) HT_ HW_ hHeld ?_
       refine pu 10 (some 15) (tA 37 2047) HT_ ?_
       refine pu 11 (some 16) (tA 37 4095) HT_ ?_
       refine pu 12 (some 17) (tA 37 8191) HT_ ?_
       refine pu 13 (some 18) (tA 37 16383) HT_ ?_
       refine tk3 14 (some 19) (tA 37 32767) HT_ HW_ hHeld ?_
       refine pu 15 (some 20) (tA 37 65535) HT_ ?_
       refine pu 16 (some 21) (tA 37 131071) HT_ ?_
       refine pu 17 (some 22) (tA 37 262143) HT_ ?_
       refine pu 18 (some 23) (tA 37 524287) HT_ ?_
       refine tk3 19 (some 24) (tA 37 1048575) HT_ HW_ hHeld ?_
       refine pu 20 (some 25) (tA 37 2097151) HT_ ?_
       refine pu 21 (some 26) (tA 37 4194303) HT_ ?_
       refine pu 22 (some 27) (tA 37 8388607) HT_ ?_
       refine pu 23 (some 28) (tA 37 16777215) HT_ ?_
       refine tk3 24 (some 29) (tA 37 33554431) HT_ HW_ hHeld ?_
       refine pu 25 (some 30) (tA 37 67108863) HT_ ?_
       refine pu 26 (some 31) (tA 37 134217727) HT_ ?_
       refine pu 27 (some 32) (tA 37 268435455) HT_ ?_
       refine pu 28 (some 33) (tA 37 536870911) HT_ ?_
       refine pu 30 (some 35) (tA 37 1610612735) HT_ ?_
       refine pu 31 (some 36) (tA 37 3758096383) HT_ ?_
       refine tk3 29 (some 34) (tA 37 4294967295) HT_ HW_ hHeld ?_
       refine tk3 32 (some 37) (tA 37 8589934591) HT_ HW_ hHeld ?_
       refine o1 33 (some 38) (tA 37 17179869183) HT_ (fun K hK => ?_)
       refine gs Try.func37 #[.int .i64 a0, .int .i64 a1_0] ?_
       with_reducible refine (impl_power.calls k a0 a1_0 t230 _ A10.out).mono ?_
       rintro e w' ⟨rfl, ⟨nd, rfl⟩⟩
       refine ⟨_, rfl, ?_⟩
       refine hK.out _ _ (e3 BK228) (fun hHeld => ?_)
       clear hK K
       refine nm (some 38) ?_
       refine pu 34 (some 39) (tA 37 34359738367) HT_ ?_
       refine pu 35 (some 40) (tA 37 68719476735) HT_ ?_
       refine pu 36 (some 4) (tA 37 137438953471) HT_ ?_
       refine done_ (done_of HT_.out (by kernel_rfl)) ?_
       try go_wp2
       go_ret
       exact ⟨er, bl⟩
      ·have c9b0 := decide_eq_false c9
       clear c9
       obtain rfl := Option.some.inj H
       go_enter Try.func18, Try.ntmps18
       try go_wp2_with (first | ((with_reducible refine zg 3 rfl ?_); refine z3 3 27 a1_0 a1_1 a1_2 ?_; intro gb228 hg w13 BK228 hb; have GW228 := sg hg; replace HB := bs hb; clear hb hg))
       replace BK228 := Aside0.mk (blk_drew BK228.out)
       replace HB := Aside0.mk (below_drew1 HB.out)
       refine sw 37 (fun w' => w'.cell? ⟨gb228, 0, none⟩ = some (.int .i64 a1_0) ∧ w'.cell? ⟨gb228, 1, none⟩ = some (.int .i64 a1_1) ∧ w'.cell? ⟨gb228, 2, none⟩ = some (.int .i64 a1_2)) impl_IsLattice.tab1 impl_IsLattice.bits1 (e3 BK228) (fun hHeld HT_ HW_ => ?_)
       generalize w13.drew = w14 at BK228 HB hHeld ⊢
       refine pu 0 (some 5) (tA 37 1) HT_ ?_
       refine o1 1 (some 6) (tA 37 3) HT_ (fun K hK => ?_)
       refine gs Try.func48 #[.int .i64 a0] ?_
       with_reducible refine (impl_isPrime.calls a0 true _ A3.out).mono ?_
       rintro e w' ⟨rfl, ⟨nd, rfl⟩⟩
       refine ⟨_, rfl, ?_⟩
       refine hK.out _ _ (e3 BK228) (fun hHeld => ?_)
       clear hK K
       refine nm (some 6) ?_
       refine pu 2 (some 7) (tA 37 7) HT_ ?_
       refine pu 3 (some 8) (tA 37 15) HT_ ?_
       refine tk3 4 (some 9) (tA 37 31) HT_ HW_ hHeld ?_
       refine pu 5 (some 10) (tA 37 63) HT_ ?_
       refine pu 6 (some 11) (tA 37 127) HT_ ?_
       refine pu 7 (some 12) (tA 37 255) HT_ ?_
       refine pu 8 (some 13) (tA 37 511) HT_ ?_
       refine tk3 9 (some 14) (tA 37 1023) HT_ HW_ hHeld ?_
       refine pu 10 (some 15) (tA 37 2047) HT_ ?_
       refine pu 11 (some 16) (tA 37 4095) HT_ ?_
       refine pu 12 (some 17) (tA 37 8191) HT_ ?_
       refine pu 13 (some 18) (tA 37 16383) HT_ ?_
       refine tk3 14 (some 19) (tA 37 32767) HT_ HW_ hHeld ?_
       refine pu 15 (some 20) (tA 37 65535) HT_ ?_
       refine pu 16 (some 21) (tA 37 131071) HT_ ?_
       refine pu 17 (some 22) (tA 37 262143) HT_ ?_
       refine pu 18 (some 23) (tA 37 524287) HT_ ?_
       refine tk3 19 (some 24) (tA 37 1048575) HT_ HW_ hHeld ?_
       refine pu 20 (some 25) (tA 37 2097151) HT_ ?_
       refine pu 21 (some 26) (tA 37 4194303) HT_ ?_
       refine pu 22 (some 27) (tA 37 8388607) HT_ ?_
       refine pu 23 (some 28) (tA 37 16777215) HT_ ?_
       refine tk3 24 (some 29) (tA 37 33554431) HT_ HW_ hHeld ?_
       refine pu 25 (some 30) (tA 37 67108863) HT_ ?_
       refine pu 26 (some 31) (tA 37 134217727) HT_ ?_
       refine pu 27 (some 32) (tA 37 268435455) HT_ ?_
       refine pv 28 (some 33) (tA 37 536870911) HT_ ?_
       refine pv 29 (some 34) (tA 37 1073741823) HT_ ?_
       refine pv 30 (some 35) (tA 37 2147483647) HT_ ?_
       refine pv 31 (some 36) (tA 37 4294967295) HT_ ?_
       refine pv 32 (some 37) (tA 37 8589934591) HT_ ?_
       refine pv 33 (some 38) (tA 37 17179869183) HT_ ?_
       refine pv 34 (some 39) (tA 37 34359738367) HT_ ?_
       refine pu 35 (some 40) (tA 37 68719476735) HT_ ?_
       refine pu 36 (some 4) (tA 37 137438953471) HT_ ?_
       refine done_ (done_of HT_.out (by kernel_rfl)) ?_
       try go_wp2
       go_ret
       exact ⟨er, bl⟩
     ·have c8b0 := decide_eq_false c8
      clear c8
      obtain rfl := Option.some.inj H
      go_enter Try.func18, Try.ntmps18
      try go_wp2_with (first | ((with_reducible refine zg 3 rfl ?_); refine z3 3 27 a1_0 a1_1 a1_2 ?_; intro gb228 hg w15 BK228 hb; have GW228 := sg hg; replace HB := bs hb; clear hb hg))
      replace BK228 := Aside0.mk (blk_drew BK228.out)
      replace HB := Aside0.mk (below_drew1 HB.out)
      refine sw 37 (fun w' => w'.cell? ⟨gb228, 0, none⟩ = some (.int .i64 a1_0) ∧ w'.cell? ⟨gb228, 1, none⟩ = some (.int .i64 a1_1) ∧ w'.cell? ⟨gb228, 2, none⟩ = some (.int .i64 a1_2)) impl_IsLattice.tab1 impl_IsLattice.bits1 (e3 BK228) (fun hHeld HT_ HW_ => ?_)
      generalize w15.drew = w16 at BK228 HB hHeld ⊢
      refine pu 0 (some 5) (tA 37 1) HT_ ?_
      refine o1 1 (some 6) (tA 37 3) HT_ (fun K hK => ?_)
      refine gs Try.func48 #[.int .i64 a0] ?_
      with_reducible refine (impl_isPrime.calls a0 true _ A3.out).mono ?_
      rintro e w' ⟨rfl, ⟨nd, rfl⟩⟩
      refine ⟨_, rfl, ?_⟩
      refine hK.out _ _ (e3 BK228) (fun hHeld => ?_)
      clear hK K
      refine nm (some 6) ?_
      refine pu 2 (some 7) (tA 37 7) HT_ ?_
      refine pu 3 (some 8) (tA 37 15) HT_ ?_
      refine tk3 4 (some 9) (tA 37 31) HT_ HW_ hHeld ?_
      refine pu 5 (some 10) (tA 37 63) HT_ ?_
      refine pu 6 (some 11) (tA 37 127) HT_ ?_
      refine pu 7 (some 12) (tA 37 255) HT_ ?_
      refine pu 8 (some 13) (tA 37 511) HT_ ?_
      refine tk3 9 (some 14) (tA 37 1023) HT_ HW_ hHeld ?_
      refine pu 10 (some 15) (tA 37 2047) HT_ ?_
      refine pu 11 (some 16) (tA 37 4095) HT_ ?_
      refine pu 12 (some 17) (tA 37 8191) HT_ ?_
      refine pu 13 (some 18) (tA 37 16383) HT_ ?_
      refine tk3 14 (some 19) (tA 37 32767) HT_ HW_ hHeld ?_
      refine pu 15 (some 20) (tA 37 65535) HT_ ?_
      refine pu 16 (some 21) (tA 37 131071) HT_ ?_
      refine pu 17 (some 22) (tA 37 262143) HT_ ?_
      refine pu 18 (some 23) (tA 37 524287) HT_ ?_
      refine tk3 19 (some 24) (tA 37 1048575) HT_ HW_ hHeld ?_
      refine pu 20 (some 25) (tA 37 2097151) HT_ ?_
      refine pu 21 (some 26) (tA 37 4194303) HT_ ?_
      refine pu 22 (some 27) (tA 37 8388607) HT_ ?_
      refine pv 23 (some 28) (tA 37 16777215) HT_ ?_
      refine pv 24 (some 29) (tA 37 33554431) HT_ ?_
      refine pv 25 (some 30) (tA 37 67108863) HT_ ?_
      refine pu 26 (some 31) (tA 37 134217727) HT_ ?_
      refine pu 27 (some 32) (tA 37 268435455) HT_ ?_
      refine pv 28 (some 33) (tA 37 536870911) HT_ ?_
      refine pv 29 (some 34) (tA 37 1073741823) HT_ ?_
      refine pv 30 (some 35) (tA 37 2147483647) HT_ ?_
      refine pv 31 (some 36) (tA 37 4294967295) HT_ ?_
      refine pv 32 (some 37) (tA 37 8589934591) HT_ ?_
      refine pv 33 (some 38) (tA 37 17179869183) HT_ ?_
      refine pv 34 (some 39) (tA 37 34359738367) HT_ ?_
      refine pu 35 (some 40) (tA 37 68719476735) HT_ ?_
      refine pu 36 (some 4) (tA 37 137438953471) HT_ ?_
      refine done_ (done_of HT_.out (by kernel_rfl)) ?_
      try go_wp2
      go_ret
      exact ⟨er, bl⟩
    ·have c7b0 := decide_eq_false c7
     clear c7
     obtain rfl := Option.some.inj H
     go_enter Try.func18, Try.ntmps18
     try go_wp2_with (first | ((with_reducible refine zg 3 rfl ?_); refine z3 3 27 a1_0 a1_1 a1_2 ?_; intro gb228 hg w17 BK228 hb; have GW228 := sg hg; replace HB := bs hb; clear hb hg))
     replace BK228 := Aside0.mk (blk_drew BK228.out)
     replace HB := Aside0.mk (below_drew1 HB.out)
     refine sw 37 (fun w' => w'.cell? ⟨gb228, 0, none⟩ = some (.int .i64 a1_0) ∧ w'.cell? ⟨gb228, 1, none⟩ = some (.int .i64 a1_1) ∧ w'.cell? ⟨gb228, 2, none⟩ = some (.int .i64 a1_2)) impl_IsLattice.tab1 impl_IsLattice.bits1 (e3 BK228) (fun hHeld HT_ HW_ => ?_)
     generalize w17.drew = w18 at BK228 HB hHeld ⊢
     refine pu 0 (some 5) (tA 37 1) HT_ ?_
     refine o1 1 (some 6) (tA 37 3) HT_ (fun K hK => ?_)
     refine gs Try.func48 #[.int .i64 a0] ?_
     with_reducible refine (impl_isPrime.calls a0 true _ A3.out).mono ?_
     rintro e w' ⟨rfl, ⟨nd, rfl⟩⟩
     refine ⟨_, rfl, ?_⟩
     refine hK.out _ _ (e3 BK228) (fun hHeld => ?_)
     clear hK K
     refine nm (some 6) ?_
     refine pu 2 (some 7) (tA 37 7) HT_ ?_
     refine pu 3 (some 8) (tA 37 15) HT_ ?_
     refine tk3 4 (some 9) (tA 37 31) HT_ HW_ hHeld ?_
     refine pu 5 (some 10) (tA 37 63) HT_ ?_
     refine pu 6 (some 11) (tA 37 127) HT_ ?_
     refine pu 7 (some 12) (tA 37 255) HT_ ?_
     refine pu 8 (some 13) (tA 37 511) HT_ ?_
     refine tk3 9 (some 14) (tA 37 1023) HT_ HW_ hHeld ?_
     refine pu 10 (some 15) (tA 37 2047) HT_ ?_
     refine pu 11 (some 16) (tA 37 4095) HT_ ?_
     refine pu 12 (some 17) (tA 37 8191) HT_ ?_
     refine pu 13 (some 18) (tA 37 16383) HT_ ?_
     refine tk3 14 (some 19) (tA 37 32767) HT_ HW_ hHeld ?_
     refine pu 15 (some 20) (tA 37 65535) HT_ ?_
     refine pu 16 (some 21) (tA 37 131071) HT_ ?_
     refine pu 17 (some 22) (tA 37 262143) HT_ ?_
     refine pv 18 (some 23) (tA 37 524287) HT_ ?_
     refine pv 19 (some 24) (tA 37 1048575) HT_ ?_
     refine pv 20 (some 25) (tA 37 2097151) HT_ ?_
     refine pu 21 (some 26) (tA 37 4194303) HT_ ?_
     refine pu 22 (some 27) (tA 37 8388607) HT_ ?_
     refine pv 23 (some 28) (tA 37 16777215) HT_ ?_
     refine pv 24 (some 29) (tA 37 33554431) HT_ ?_
     refine pv 25 (some 30) (tA 37 67108863) HT_ ?_
     refine pu 26 (some 31) (tA 37 134217727) HT_ ?_
     refine pu 27 (some 32) (tA 37 268435455) HT_ ?_
     refine pv 28 (some 33) (tA 37 536870911) HT_ ?_
     refine pv 29 (some 34) (tA 37 1073741823) HT_ ?_
     refine pv 30 (some 35) (tA 37 2147483647) HT_ ?_
     refine pv 31 (some 36) (tA 37 4294967295) HT_ ?_
     refine pv 32 (some 37) (tA 37 8589934591) HT_ ?_
     refine pv 33 (some 38) (tA 37 17179869183) HT_ ?_
     refine pv 34 (some 39) (tA 37 34359738367) HT_ ?_
     refine pu 35 (some 40) (tA 37 68719476735) HT_ ?_
     refine pu 36 (some 4) (tA 37 137438953471) HT_ ?_
     refine done_ (done_of HT_.out (by kernel_rfl)) ?_
     try go_wp2
     go_ret
     exact ⟨er, bl⟩
   ·have c6b0 := decide_eq_false c6
    clear c6
    obtain rfl := Option.some.inj H
    go_enter Try.func18, Try.ntmps18
    try go_wp2_with (first | ((with_reducible refine zg 3 rfl ?_); refine z3 3 27 a1_0 a1_1 a1_2 ?_; intro gb228 hg w19 BK228 hb; have GW228 := sg hg; replace HB := bs hb; clear hb hg))
    replace BK228 := Aside0.mk (blk_drew BK228.out)
    replace HB := Aside0.mk (below_drew1 HB.out)
    refine sw 37 (fun w' => w'.cell? ⟨gb228, 0, none⟩ = some (.int .i64 a1_0) ∧ w'.cell? ⟨gb228, 1, none⟩ = some (.int .i64 a1_1) ∧ w'.cell? ⟨gb228, 2, none⟩ = some (.int .i64 a1_2)) impl_IsLattice.tab1 impl_IsLattice.bits1 (e3 BK228) (fun hHeld HT_ HW_ => ?_)
    generalize w19.drew = w20 at BK228 HB hHeld ⊢
    refine pu 0 (some 5) (tA 37 1) HT_ ?_
    refine o1 1 (some 6) (tA 37 3) HT_ (fun K hK => ?_)
    refine gs Try.func48 #[.int .i64 a0] ?_
    with_reducible refine (impl_isPrime.calls a0 true _ A3.out).mono ?_
    rintro e w' ⟨rfl, ⟨nd, rfl⟩⟩
    refine ⟨_, rfl, ?_⟩
    refine hK.out _ _ (e3 BK228) (fun hHeld => ?_)
    clear hK K
    refine nm (some 6) ?_
    refine pu 2 (some 7) (tA 37 7) HT_ ?_
    refine pu 3 (some 8) (tA 37 15) HT_ ?_
    refine tk3 4 (some 9) (tA 37 31) HT_ HW_ hHeld ?_
    refine pu 5 (some 10) (tA 37 63) HT_ ?_
    refine pu 6 (some 11) (tA 37 127) HT_ ?_
    refine pu 7 (some 12) (tA 37 255) HT_ ?_
    refine pu 8 (some 13) (tA 37 511) HT_ ?_
    refine tk3 9 (some 14) (tA 37 1023) HT_ HW_ hHeld ?_
    refine pu 10 (some 15) (tA 37 2047) HT_ ?_
    refine pu 11 (some 16) (tA 37 4095) HT_ ?_
    refine pu 12 (some 17) (tA 37 8191) HT_ ?_
    refine pv 13 (some 18) (tA 37 16383) HT_ ?_
    refine pv 14 (some 19) (tA 37 32767) HT_ ?_
    refine pv 15 (some 20) (tA 37 65535) HT_ ?_
    refine pu 16 (some 21) (tA 37 131071) HT_ ?_
    refine pu 17 (some 22) (tA 37 262143) HT_ ?_
    refine pv 18 (some 23) (tA 37 524287) HT_ ?_
    refine pv 19 (some 24) (tA 37 1048575) HT_ ?_
    refine pv 20 (some 25) (tA 37 2097151) HT_ ?_
    refine pu 21 (some 26) (tA 37 4194303) HT_ ?_
    refine pu 22 (some 27) (tA 37 8388607) HT_ ?_
    refine pv 23 (some 28) (tA 37 16777215) HT_ ?_
    refine pv 24 (some 29) (tA 37 33554431) HT_ ?_
    refine pv 25 (some 30) (tA 37 67108863) HT_ ?_
    refine pu 26 (some 31) (tA 37 134217727) HT_ ?_
    refine pu 27 (some 32) (tA 37 268435455) HT_ ?_
    refine pv 28 (some 33) (tA 37 536870911) HT_ ?_
    refine pv 29 (some 34) (tA 37 1073741823) HT_ ?_
    refine pv 30 (some 35) (tA 37 2147483647) HT_ ?_
    refine pv 31 (some 36) (tA 37 4294967295) HT_ ?_
    refine pv 32 (some 37) (tA 37 8589934591) HT_ ?_
    refine pv 33 (some 38) (tA 37 17179869183) HT_ ?_
    refine pv 34 (some 39) (tA 37 34359738367) HT_ ?_
    refine pu 35 (some 40) (tA 37 68719476735) HT_ ?_
    refine pu 36 (some 4) (tA 37 137438953471) HT_ ?_
    refine done_ (done_of HT_.out (by kernel_rfl)) ?_
    try go_wp2
    go_ret
    exact ⟨er, bl⟩
  ·have c5b0 := decide_eq_false c5
   clear c5
   obtain rfl := Option.some.inj H
   go_enter Try.func18, Try.ntmps18
   try go_wp2_with (first | ((with_reducible refine zg 3 rfl ?_); refine z3 3 27 a1_0 a1_1 a1_2 ?_; intro gb228 hg w21 BK228 hb; have GW228 := sg hg; replace HB := bs hb; clear hb hg))
   replace BK228 := Aside0.mk (blk_drew BK228.out)
   replace HB := Aside0.mk (below_drew1 HB.out)
   refine sw 37 (fun w' => w'.cell? ⟨gb228, 0, none⟩ = some (.int .i64 a1_0) ∧ w'.cell? ⟨gb228, 1, none⟩ = some (.int .i64 a1_1) ∧ w'.cell? ⟨gb228, 2, none⟩ = some (.int .i64 a1_2)) impl_IsLattice.tab1 impl_IsLattice.bits1 (e3 BK228) (fun hHeld HT_ HW_ => ?_)
   generalize w21.drew = w22 at BK228 HB hHeld ⊢
   refine pu 0 (some 5) (tA 37 1) HT_ ?_
   refine o1 1 (some 6) (tA 37 3) HT_ (fun K hK => ?_)
   refine gs Try.func48 #[.int .i64 a0] ?_
   with_reducible refine (impl_isPrime.calls a0 true _ A3.out).mono ?_
   rintro e w' ⟨rfl, ⟨nd, rfl⟩⟩
   refine ⟨_, rfl, ?_⟩
   refine hK.out _ _ (e3 BK228) (fun hHeld => ?_)
   clear hK K
   refine nm (some 6) ?_
   refine pu 2 (some 7) (tA 37 7) HT_ ?_
   refine pu 3 (some 8) (tA 37 15) HT_ ?_
   refine tk3 4 (some 9) (tA 37 31) HT_ HW_ hHeld ?_
   refine pu 5 (some 10) (tA 37 63) HT_ ?_
   refine pu 6 (some 11) (tA 37 127) HT_ ?_
   refine pu 7 (some 12) (tA 37 255) HT_ ?_
   refine pv 8 (some 13) (tA 37 511) HT_ ?_
   refine pv 9 (some 14) (tA 37 1023) HT_ ?_
   refine pv 10 (some 15) (tA 37 2047) HT_ ?_
   refine pu 11 (some 16) (tA 37 4095) HT_ ?_
   refine pu 12 (some 17) (tA 37 8191) HT_ ?_
   refine pv 13 (some 18) (tA 37 16383) HT_ ?_
   refine pv 14 (some 19) (tA 37 32767) HT_ ?_
   refine pv 15 (some 20) (tA 37 65535) HT_ ?_
   refine pu 16 (some 21) (tA 37 131071) HT_ ?_
   refine pu 17 (some 22) (tA 37 262143) HT_ ?_
   refine pv 18 (some 23) (tA 37 524287) HT_ ?_
   refine pv 19 (some 24) (tA 37 1048575) HT_ ?_
   refine pv 20 (some 25) (tA 37 2097151) HT_ ?_
   refine pu 21 (some 26) (tA 37 4194303) HT_ ?_
   refine pu 22 (some 27) (tA 37 8388607) HT_ ?_
   refine pv 23 (some 28) (tA 37 16777215) HT_ ?_
   refine pv 24 (some 29) (tA 37 33554431) HT_ ?_
   refine pv 25 (some 30) (tA 37 67108863) HT_ ?_
   refine pu 26 (some 31) (tA 37 134217727) HT_ ?_
   refine pu 27 (some 32) (tA 37 268435455) HT_ ?_
   refine pv 28 (some 33) (tA 37 536870911) HT_ ?_
   refine pv 29 (some 34) (tA 37 1073741823) HT_ ?_
   refine pv 30 (some 35) (tA 37 2147483647) HT_ ?_
   refine pv 31 (some 36) (tA 37 4294967295) HT_ ?_
   refine pv 32 (some 37) (tA 37 8589934591) HT_ ?_
   refine pv 33 (some 38) (tA 37 17179869183) HT_ ?_
   refine pv 34 (some 39) (tA 37 34359738367) HT_ ?_
   refine pu 35 (some 40) (tA 37 68719476735) HT_ ?_
   refine pu 36 (some 4) (tA 37 137438953471) HT_ ?_
   refine done_ (done_of HT_.out (by kernel_rfl)) ?_
   try go_wp2
   go_ret
   exact ⟨er, bl⟩
 ·replace c4 := Bool.eq_false_iff.mpr c4
  subst c4
  have H1 : (some false) = some r := by rw [if_neg (show ¬ (false = true) by decide)] at H; exact H
  clear H
  have H := H1
  clear H1
  obtain rfl := Option.some.inj H
  go_enter Try.func18, Try.ntmps18
  try go_wp2_with (first | ((with_reducible refine zg 3 rfl ?_); refine z3 3 27 a1_0 a1_1 a1_2 ?_; intro gb228 hg w23 BK228 hb; have GW228 := sg hg; replace HB := bs hb; clear hb hg))
  replace BK228 := Aside0.mk (blk_drew BK228.out)
  replace HB := Aside0.mk (below_drew1 HB.out)
  refine sw 37 (fun w' => True) impl_IsLattice.tab1 impl_IsLattice.bits1 trivial (fun hHeld HT_ HW_ => ?_)
  generalize w23.drew = w24 at BK228 HB hHeld ⊢
  refine pu 0 (some 5) (tA 37 1) HT_ ?_
  refine o1 1 (some 6) (tA 37 3) HT_ (fun K hK => ?_)
  refine gs Try.func48 #[.int .i64 a0] ?_
  with_reducible refine (impl_isPrime.calls a0 false _ A3.out).mono ?_
  rintro e w' ⟨rfl, ⟨nd, rfl⟩⟩
  refine ⟨_, rfl, ?_⟩
  refine hK.out _ _ trivial (fun hHeld => ?_)
  clear hK K
  refine nm (some 6) ?_
  refine pu 2 (some 7) (tA 37 7) HT_ ?_
  refine pv 3 (some 8) (tA 37 15) HT_ ?_
  refine pv 4 (some 9) (tA 37 31) HT_ ?_
  refine pv 5 (some 10) (tA 37 63) HT_ ?_
  refine pu 6 (some 11) (tA 37 127) HT_ ?_
  refine pu 7 (some 12) (tA 37 255) HT_ ?_
  refine pv 8 (some 13) (tA 37 511) HT_ ?_
  refine pv 9 (some 14) (tA 37 1023) HT_ ?_
  refine pv 10 (some 15) (tA 37 2047) HT_ ?_
  refine pu 11 (some 16) (tA 37 4095) HT_ ?_
  refine pu 12 (some 17) (tA 37 8191) HT_ ?_
  refine pv 13 (some 18) (tA 37 16383) HT_ ?_
  refine pv 14 (some 19) (tA 37 32767) HT_ ?_
  refine pv 15 (some 20) (tA 37 65535) HT_ ?_
  refine pu 16 (some 21) (tA 37 131071) HT_ ?_
  refine pu 17 (some 22) (tA 37 262143) HT_ ?_
  refine pv 18 (some 23) (tA 37 524287) HT_ ?_
  refine pv 19 (some 24) (tA 37 1048575) HT_ ?_
  refine pv 20 (some 25) (tA 37 2097151) HT_ ?_
  refine pu 21 (some 26) (tA 37 4194303) HT_ ?_
  refine pu 22 (some 27) (tA 37 8388607) HT_ ?_
  refine pv 23 (some 28) (tA 37 16777215) HT_ ?_
  refine pv 24 (some 29) (tA 37 33554431) HT_ ?_
  refine pv 25 (some 30) (tA 37 67108863) HT_ ?_
  refine pu 26 (some 31) (tA 37 134217727) HT_ ?_
  refine pu 27 (some 32) (tA 37 268435455) HT_ ?_
  refine pv 28 (some 33) (tA 37 536870911) HT_ ?_
  refine pv 29 (some 34) (tA 37 1073741823) HT_ ?_
  refine pv 30 (some 35) (tA 37 2147483647) HT_ ?_
  refine pv 31 (some 36) (tA 37 4294967295) HT_ ?_
  refine pv 32 (some 37) (tA 37 8589934591) HT_ ?_
  refine pv 33 (some 38) (tA 37 17179869183) HT_ ?_
  refine pv 34 (some 39) (tA 37 34359738367) HT_ ?_
  refine pu 35 (some 40) (tA 37 68719476735) HT_ ?_
  refine pu 36 (some 4) (tA 37 137438953471) HT_ ?_
  refine done_ (done_of HT_.out (by kernel_rfl)) ?_
  try go_wp2
  go_ret
  exact ⟨er, bl⟩

end Go.Proofs.Ytkfodnlogflcpaa.PFnLattices

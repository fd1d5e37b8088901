-- Printed by the kit's print and repaired by a program of this session.
import Derived.Test.YtgdkmchphpjifaaGreatDoorPFnEndsx0
import Derived.Test.YtgdkmchphpjifaaGreatDoorPFnEndsx8
import Derived.Test.YtgdkmchphpjifaaGreatDoorPFnEndsx10
import Derived.Test.YtgdkmchphpjifaaGreatDoorPFnEndsx11
namespace Go.Proofs.YtgdkmchphpjifaaGreatDoor.PFnEnds
open Go.RowKit Go.Proofs.YtgdkmchphpjifaaGreatDoorW.PrintWords Go.Proofs.YtgdkmchphpjifaaGreatDoorW.PrintLast Go.Proofs.YtgdkmchphpjifaaGreatDoorW.PrintMore
attribute [local go_sem] max2_int min2_int max_two min_two max_three min_three max_four min_four
set_option linter.unusedVariables false
set_option linter.unusedSimpArgs false

/-! ### spec_l01Dec: function 67 -/
def spec_l01Dec.f : Nat → Int → Option (ByteArray)
 | 0, _ => none
 | k + 1, a0 => if a0 < 0 then ((spec_l01Dec.f k (wrap64 (-a0))).bind fun t368 => (if 1 + t368.size ≤ 9223372036854775807 then (some ((⟨#[45]⟩ : ByteArray) ++ t368)) else (none))) else (if a0 < 10 then (some (strOfNums (([(wrap64 (48 + a0)) % 256] : List Int)))) else ((spec_l01Dec.f k (wrap64 (Int.tdiv a0 10))).bind fun t372 => ((some (([(wrap64 (48 + (Int.tmod a0 10))) % 256] : List Int) : List Int)).bind fun y373 => (if t372.size + (strOfNums y373).size ≤ 9223372036854775807 then (some (t372 ++ (strOfNums y373))) else (none)))))
def spec_l01Dec.T5 : Bool × List (List Nat × List Nat) := (true, [([], []), ([0], [0]), ([1], [1]), ([], []), ([3], [3]), ([4], [4]), ([5], [5]), ([6], [6]), ([7], [7]), ([2, 8], [2, 8]), ([9, 2, 0, 1, 2, 3, 4, 5, 6, 7, 8, 9], [9])])
def spec_l01Dec.B5 : List Nat := [0, 1, 3, 0, 8, 24, 56, 120, 248, 511, 1023]
theorem spec_l01Dec.tab5 : rtab .any (opsOf Tryz.f67 5) = spec_l01Dec.T5 := by kernel_rfl
theorem spec_l01Dec.bits5 : waitsOk spec_l01Dec.T5.2 spec_l01Dec.B5 = true := by kernel_rfl
set_option maxHeartbeats 8000000 in
set_option maxRecDepth 100000 in
theorem spec_l01Dec.calls (k : Nat) : ∀ (a0 : Int) (r : ByteArray) (w : World) (h : spec_l01Dec.f k a0 = some r),
  Calls Tryz.prog 67 #[.int .i64 a0] w fun e w' => e = .returned (.string r) ∧ Below w.heap.size w w' := by
 induction k using Nat.strongRecOn with
 | _ k ih =>
 intro a0 r w h
 cases k with
 | zero => exact absurd h (by simp [spec_l01Dec.f])
 | succ k =>
 simp only [spec_l01Dec.f] at h
 have HB := Aside0.mk (Below.refl w.heap.size w)
 have H := h
 clear h
 replace H := ii H
 rcases H with ⟨c2, H⟩ | ⟨c2, H⟩
 ·have c2b0 := decide_eq_true c2
  clear c2
  replace H := zi H
  obtain ⟨t368, A3, H⟩ := H
  try dsimp only at H
  replace H := ii H
  rcases H with ⟨c4, H⟩ | ⟨c4, H⟩
  ·have c4b0 := eq_true c4
   have c4b1 := decide_eq_true c4
   try have c4b2 : (9223372036854775807 < 1 + t368.size) = False := eq_false (Nat.not_lt.2 c4)
   obtain rfl := Option.some.inj H
   go_enter Tryz.func67, Tryz.ntmps67
   go_wp2_with (first | ((with_reducible refine zf 67 rfl ?_); refine g1 (some 7) Tryz.func67 #[.int .i64 (wrap64 (-a0))] ?_; (with_reducible refine (ih k (by omega) (wrap64 (-a0)) t368 _ A3.out).mono ?_); rintro e w5 ⟨rfl, hb⟩; refine ⟨_, rfl, ?_⟩; replace HB := bs hb; (try clear hb)))
   go_ret
   exact ⟨er, bl⟩
  ·exact absurd H (by simp)
 ·have c2b0 := decide_eq_false c2
  clear c2
  replace H := ii H
  rcases H with ⟨c6, H⟩ | ⟨c6, H⟩
  ·have c6b0 := decide_eq_true c6
   clear c6
   obtain ⟨y369, hy369⟩ : ∃ y_ : List Int, y_ = (([(wrap64 (48 + a0)) % 256] : List Int)) := ⟨_, rfl⟩
   replace H : (some (strOfNums y369)) = some r := by first | exact hy369 ▸ H | exact H
   have Ny369 := Aside0.mk hy369
   clear hy369
   obtain rfl := Option.some.inj H
   go_enter Tryz.func67, Tryz.ntmps67
   go_wp2_with (first | ((with_reducible refine zg 14 rfl ?_); refine Kd.R_lit (Kd.int .u8) _ 5 ?hg (N := 14) ?hd (xs := ([(wrap64 (48 + a0)) % 256] : List Int)) (inner := [.int .u8 ((wrap64 (48 + a0)) % 256)]) (ok := fun _ => True) (okp := fun _ => True) ?hr ?hp (fun _ hk => hk) trivial (Below.refl _ _) (Nat.le_refl _) (by simp) ?_; (case hd => rfl); (case hg => rfl); (case hr => first | (go_simp; done) | (go_simp; rfl)); (case hp => exact (Reps.one (show Kd.M (Kd.int .u8) _ _ _ ((wrap64 (48 + a0)) % 256) [.int .u8 ((wrap64 (48 + a0)) % 256)] from rfl) (Reps.none _ _))); intro v370 w7 ho8 hb hg_ hnew_; clear hg_ hnew_; (first | rw [← Ny369.out] at ho8 | (simp only [Int.reduceToNat] at ho8; rw [← Ny369.out] at ho8)); have HO371 := Aside0.mk (Kd.R_lower ho8 (below_size (bl))); replace HB := bs hb; clear hb ho8; have hcv9 := own_string (P := Tryz.prog) Tryz.underlying22 Tryz.underlying5 Tryz.underlying9 (Kd.own_of_R HO371.out)))
   go_ret
   exact ⟨er, bl⟩
  ·have c6b0 := decide_eq_false c6
   clear c6
   replace H := zi H
   obtain ⟨t372, A10, H⟩ := H
   try dsimp only at H
   obtain ⟨y373, hy373⟩ : ∃ y_ : List Int, y_ = (([(wrap64 (48 + (Int.tmod a0 10))) % 256] : List Int)) := ⟨_, rfl⟩
   replace H : (if t372.size + (strOfNums y373).size ≤ 9223372036854775807 then (some (t372 ++ (strOfNums y373))) else (none)) = some r := by first | exact hy373 ▸ H | exact H
   have Ny373 := Aside0.mk hy373
   clear hy373
   replace H := ii H
   rcases H with ⟨c11, H⟩ | ⟨c11, H⟩
   ·have c11b0 := eq_true c11
    have c11b1 := decide_eq_true c11
    try have c11b2 : (9223372036854775807 < t372.size + (strOfNums y373).size) = False := eq_false (Nat.not_lt.2 c11)
    obtain rfl := Option.some.inj H
    go_enter Tryz.func67, Tryz.ntmps67
    try go_wp2
    replace HB := Aside0.mk (below_drew1 HB.out)
    refine sw 11 (fun w' => True) spec_l01Dec.tab5 spec_l01Dec.bits5 trivial (fun hHeld HT_ HW_ => ?_)
    generalize w.drew = w12 at HB hHeld ⊢
    refine pu 0 (some 16) (tA 11 1) HT_ ?_
    refine pu 1 (some 17) (tA 11 3) HT_ ?_
    refine pu 3 (some 19) (tA 11 11) HT_ ?_
    refine pu 4 (some 20) (tA 11 27) HT_ ?_
    refine pu 5 (some 21) (tA 11 59) HT_ ?_
    refine pu 6 (some 22) (tA 11 123) HT_ ?_
    refine join_ (σ := Value) 2 (tA 11 511) (fun s_ => [(18, .string t372), (23, s_), (24, .string (strOfNums y373))]) (fun s_ w' => (Kd.R (Kd.int .u8) 5 w' w.heap.size (fun _ => True) s_ y373) ∧ (Below w.heap.size w w')) ?_ ?_
    rotate_left
    ·intro hCont
     refine two_ (i := 2) (j := 7) (Ni := some 18) (Nj := some 23) (tA 11 127) (tA 11 251) rfl rfl rfl rfl (two_of HT_.out (by kernel_rfl)) (by decide) (by decide) (fun K hK => ?_) (fun K hK => ?_)
     ·skip
      refine gs Tryz.func67 #[.int .i64 (wrap64 (Int.tdiv a0 10))] ?_
      with_reducible refine (ih k (by omega) (wrap64 (Int.tdiv a0 10)) t372 _ A10.out).mono ?_
      rintro e w13 ⟨rfl, hb⟩
      refine ⟨_, rfl, ?_⟩
      replace HB := bs hb
      (try clear hb)
      (try clear hb2)
      (try clear hk)
      (try clear hi)
      refine hK.out _ _ trivial (fun hHeld => ?_)
      clear hK K
      refine nm (some 18) ?_
      refine o1 7 (some 23) (tA 11 255) HT_ (fun K hK => ?_)
      refine Kd.R_lit_step (Kd.int .u8) _ 5 ?hg (N := 23) ?hd (xs := ([(wrap64 (48 + (Int.tmod a0 10))) % 256] : List Int)) (inner := [.int .u8 ((wrap64 (48 + (Int.tmod a0 10))) % 256)]) (ok := fun _ => True) (okp := fun _ => True) ?hr ?hp (fun _ hk => hk) trivial (Below.refl _ _) (Nat.le_refl _) (by simp) ?_; (case hd => rfl); (case hg => rfl); (case hr => first | (go_simp; done) | (go_simp; rfl)); (case hp => exact (Reps.one (show Kd.M (Kd.int .u8) _ _ _ ((wrap64 (48 + (Int.tmod a0 10))) % 256) [.int .u8 ((wrap64 (48 + (Int.tmod a0 10))) % 256)] from rfl) (Reps.none _ _)))
      intro v374 w14 ho15 hb hg_ hnew_
      clear hg_ hnew_
      (first | rw [← Ny373.out] at ho15 | (simp only [Int.reduceToNat] at ho15; rw [← Ny373.out] at ho15))
      have HO375 := Aside0.mk (Kd.R_lower ho15 (below_size (bl)))
      replace HB := bs hb
      clear hb ho15
      refine hK.out _ _ trivial (fun hHeld => ?_)
      clear hK K
      refine nm (some 23) ?_
      refine o1 8 (some 24) (tA 11 511) HT_ (fun K hK => ?_)
      have hcv16 := own_string (P := Tryz.prog) Tryz.underlying22 Tryz.underlying5 Tryz.underlying9 (Kd.own_of_R HO375.out)
      refine value_ (w1 := ?_) (v := ?_) (by rfl) rfl ?_ ?_
      rotate_left 2
      ·go_simp
       constructor
       ·rfl
       ·rfl
      clear hcv16
      refine hK.out _ _ trivial (fun hHeld => ?_)
      clear hK K
      refine nm (some 24) ?_
      exact norm_ (by simp only [putAll, Act.put, zq, zr, zt]) (hCont (v374) _ ⟨(by (with_reducible repeat (first | apply Kd.R_alloc | apply Kd.R_drewN | apply Kd.R_drew)); exact HO375.out), (bl)⟩)
     ·skip
      refine Kd.R_lit_step (Kd.int .u8) _ 5 ?hg (N := 23) ?hd (xs := ([(wrap64 (48 + (Int.tmod a0 10))) % 256] : List Int)) (inner := [.int .u8 ((wrap64 (48 + (Int.tmod a0 10))) % 256)]) (ok := fun _ => True) (okp := fun _ => True) ?hr ?hp (fun _ hk => hk) trivial (Below.refl _ _) (Nat.le_refl _) (by simp) ?_; (case hd => rfl); (case hg => rfl); (case hr => first | (go_simp; done) | (go_simp; rfl)); (case hp => exact (Reps.one (show Kd.M (Kd.int .u8) _ _ _ ((wrap64 (48 + (Int.tmod a0 10))) % 256) [.int .u8 ((wrap64 (48 + (Int.tmod a0 10))) % 256)] from rfl) (Reps.none _ _)))
      intro v374 w13 ho14 hb hg_ hnew_
      clear hg_ hnew_
      (first | rw [← Ny373.out] at ho14 | (simp only [Int.reduceToNat] at ho14; rw [← Ny373.out] at ho14))
      have HO375 := Aside0.mk (Kd.R_lower ho14 (below_size (bl)))
      replace HB := bs hb
      clear hb ho14
      refine hK.out _ _ trivial (fun hHeld => ?_)
      clear hK K
      refine nm (some 23) ?_
      refine two_ (i := 2) (j := 8) (Ni := some 18) (Nj := some 24) (tA 11 255) (tA 11 507) rfl rfl rfl rfl (two_of HT_.out (by kernel_rfl)) (by decide) (by decide) (fun K hK => ?_) (fun K hK => ?_)
      ·skip
       refine gs Tryz.func67 #[.int .i64 (wrap64 (Int.tdiv a0 10))] ?_
       with_reducible refine (ih k (by omega) (wrap64 (Int.tdiv a0 10)) t372 _ A10.out).mono ?_
       rintro e w15 ⟨rfl, hb⟩
       refine ⟨_, rfl, ?_⟩
       replace HO375 := Aside0.mk (Kd.R_below (by (with_reducible repeat (first | apply Kd.R_alloc | apply Kd.R_drewN | apply Kd.R_drew)); exact HO375.out) hb)
       replace HB := bs hb
       (try clear hb)
       (try clear hb2)
       (try clear hk)
       (try clear hi)
       refine hK.out _ _ trivial (fun hHeld => ?_)
       clear hK K
       refine nm (some 18) ?_
       refine o1 8 (some 24) (tA 11 511) HT_ (fun K hK => ?_)
       have hcv16 := own_string (P := Tryz.prog) Tryz.underlying22 Tryz.underlying5 Tryz.underlying9 (Kd.own_of_R HO375.out)
       refine value_ (w1 := ?_) (v := ?_) (by rfl) rfl ?_ ?_
       rotate_left 2
       ·go_simp
        constructor
        ·rfl
        ·rfl
       clear hcv16
       refine hK.out _ _ trivial (fun hHeld => ?_)
       clear hK K
       refine nm (some 24) ?_
       exact norm_ (by simp only [putAll, Act.put, zq, zr, zt]) (hCont (v374) _ ⟨(by (with_reducible repeat (first | apply Kd.R_alloc | apply Kd.R_drewN | apply Kd.R_drew)); exact HO375.out), (bl)⟩)
      ·skip
       have hcv15 := own_string (P := Tryz.prog) Tryz.underlying22 Tryz.underlying5 Tryz.underlying9 (Kd.own_of_R HO375.out)
       refine value_ (w1 := ?_) (v := ?_) (by rfl) rfl ?_ ?_
       rotate_left 2
       ·go_simp
        constructor
        ·rfl
        ·rfl
       clear hcv15
       refine hK.out _ _ trivial (fun hHeld => ?_)
       clear hK K
       refine nm (some 24) ?_
       refine o1 2 (some 18) (tA 11 511) HT_ (fun K hK => ?_)
       refine gs Tryz.func67 #[.int .i64 (wrap64 (Int.tdiv a0 10))] ?_
       with_reducible refine (ih k (by omega) (wrap64 (Int.tdiv a0 10)) t372 _ A10.out).mono ?_
       rintro e w16 ⟨rfl, hb⟩
       refine ⟨_, rfl, ?_⟩
       replace HO375 := Aside0.mk (Kd.R_below (by (with_reducible repeat (first | apply Kd.R_alloc | apply Kd.R_drewN | apply Kd.R_drew)); exact HO375.out) hb)
       replace HB := bs hb
       (try clear hb)
       (try clear hb2)
       (try clear hk)
       (try clear hi)
       refine hK.out _ _ trivial (fun hHeld => ?_)
       clear hK K
       refine nm (some 18) ?_
       exact norm_ (by simp only [putAll, Act.put, zq, zr, zt]) (hCont (v374) _ ⟨(by (with_reducible repeat (first | apply Kd.R_alloc | apply Kd.R_drewN | apply Kd.R_drew)); exact HO375.out), (bl)⟩)
    rintro v374 w17 ⟨h0_, h1_⟩
    have n0_ : Aside0 (Kd.R (Kd.int .u8) 5 w17 w.heap.size (fun _ => True) v374 y373) := ⟨h0_⟩
    have n1_ : Aside0 (Below w.heap.size w w17) := ⟨h1_⟩
    clear HB
    clear h0_ h1_
    have HO375 := n0_
    have HB := n1_
    clear n0_ n1_
    have hHeld := trivial
    refine norm_ (a' := ?_) ?_ ?_
    rotate_left
    ·simp only [putAll, Act.put, zq, zr, zt]
     rfl
    refine pu 9 (some 25) (tA 11 1023) HT_ ?_
    refine pu 10 (some 2) (tA 11 2047) HT_ ?_
    refine done_ (done_of HT_.out (by kernel_rfl)) ?_
    try go_wp2
    go_ret
    exact ⟨er, bl⟩
   ·exact absurd H (by simp)

/-! ### spec_l01Text: function 42 -/
def spec_l01Text.f (k : Nat) (a0 : Int) (a1_0 : Int) (a1_1 : Int) (a1_2 : Int) : Option (ByteArray) := (spec_l01Dec.f k a1_1).bind fun t377 => (if t377.size + 1 ≤ 9223372036854775807 then ((spec_l01Dec.f k a1_2).bind fun t378 => (if (t377 ++ (⟨#[46]⟩ : ByteArray)).size + t378.size ≤ 9223372036854775807 then (if ((t377 ++ (⟨#[46]⟩ : ByteArray)) ++ t378).size + 1 ≤ 9223372036854775807 then ((spec_l01Dec.f k a1_0).bind fun t379 => (if (((t377 ++ (⟨#[46]⟩ : ByteArray)) ++ t378) ++ (⟨#[64]⟩ : ByteArray)).size + t379.size ≤ 9223372036854775807 then (some ((((t377 ++ (⟨#[46]⟩ : ByteArray)) ++ t378) ++ (⟨#[64]⟩ : ByteArray)) ++ t379)) else (none))) else (none)) else (none))) else (none))
def spec_l01Text.T1 : Bool × List (List Nat × List Nat) := (true, [([], []), ([0], [0]), ([1], [1]), ([2], [2]), ([], []), ([4], [4]), ([5, 2], [5]), ([3, 6], [3, 6]), ([7], [7]), ([], []), ([9], [9]), ([10, 6], [10]), ([8, 11], [8, 11]), ([12, 11, 0, 1, 2, 3, 4, 5, 6, 7, 8, 9, 10, 11, 12], [12])])
def spec_l01Text.B1 : List Nat := [0, 1, 3, 7, 0, 16, 55, 127, 255, 0, 512, 1655, 4095, 8191]
theorem spec_l01Text.tab1 : rtab .any (opsOf Tryz.f42 1) = spec_l01Text.T1 := by kernel_rfl
theorem spec_l01Text.bits1 : waitsOk spec_l01Text.T1.2 spec_l01Text.B1 = true := by kernel_rfl
set_option maxHeartbeats 8000000 in
set_option maxRecDepth 100000 in
theorem spec_l01Text.calls (k : Nat) (a0 : Int) (a1_0 : Int) (a1_1 : Int) (a1_2 : Int) (r : ByteArray) (w : World) (h : spec_l01Text.f k a0 a1_0 a1_1 a1_2 = some r) :
  Calls Tryz.prog 42 #[.int .i64 a0, .agg #[.int .i64 a1_0, .int .i64 a1_1, .int .i64 a1_2]] w fun e w' => e = .returned (.string r) ∧ Below w.heap.size w w' := by
 have hu35 := Tryz.underlying35
 have HB := Aside0.mk (Below.refl w.heap.size w)
 unfold spec_l01Text.f at h
 have H := h
 clear h
 replace H := zi H
 obtain ⟨t377, A3, H⟩ := H
 try dsimp only at H
 replace H := ii H
 rcases H with ⟨c4, H⟩ | ⟨c4, H⟩
 ·have c4b0 := eq_true c4
  have c4b1 := decide_eq_true c4
  try have c4b2 : (9223372036854775807 < t377.size + 1) = False := eq_false (Nat.not_lt.2 c4)
  replace H := zi H
  obtain ⟨t378, A5, H⟩ := H
  try dsimp only at H
  replace H := ii H
  rcases H with ⟨c6, H⟩ | ⟨c6, H⟩
  ·have c6b0 := eq_true c6
   have c6b1 := decide_eq_true c6
   try have c6b2 : (9223372036854775807 < (t377 ++ (⟨#[46]⟩ : ByteArray)).size + t378.size) = False := eq_false (Nat.not_lt.2 c6)
   have c6b9 : (9223372036854775807 < t377.size + 1 + t378.size) = False := eq_false (by have h9_ := of_eq_false c6b2; simp only [ByteArray.size_append] at h9_; exact h9_)
   replace H := ii H
   rcases H with ⟨c7, H⟩ | ⟨c7, H⟩
   ·have c7b0 := eq_true c7
    have c7b1 := decide_eq_true c7
    try have c7b2 : (9223372036854775807 < ((t377 ++ (⟨#[46]⟩ : ByteArray)) ++ t378).size + 1) = False := eq_false (Nat.not_lt.2 c7)
    have c7b9 : (9223372036854775807 < t377.size + 1 + t378.size + 1) = False := eq_false (by have h9_ := of_eq_false c7b2; simp only [ByteArray.size_append] at h9_; exact h9_)
    replace H := zi H
    obtain ⟨t379, A8, H⟩ := H
    try dsimp only at H
    replace H := ii H
    rcases H with ⟨c9, H⟩ | ⟨c9, H⟩
    ·have c9b0 := eq_true c9
     have c9b1 := decide_eq_true c9
     try have c9b2 : (9223372036854775807 < (((t377 ++ (⟨#[46]⟩ : ByteArray)) ++ t378) ++ (⟨#[64]⟩ : ByteArray)).size + t379.size) = False := eq_false (Nat.not_lt.2 c9)
     have c9b9 : (9223372036854775807 < t377.size + 1 + t378.size + 1 + t379.size) = False := eq_false (by have h9_ := of_eq_false c9b2; simp only [ByteArray.size_append] at h9_; exact h9_)
     obtain rfl := Option.some.inj H
     go_enter Tryz.func42, Tryz.ntmps42
     try go_wp2_with (first | ((with_reducible refine zg 3 rfl ?_); refine z3 3 35 a1_0 a1_1 a1_2 ?_; intro gb376 hg w10 BK376 hb; have GW376 := sg hg; replace HB := bs hb; clear hb hg))
     replace BK376 := Aside0.mk (blk_drew BK376.out)
     replace HB := Aside0.mk (below_drew1 HB.out)
     refine sw 14 (fun w' => w'.cell? ⟨gb376, 0, none⟩ = some (.int .i64 a1_0) ∧ w'.cell? ⟨gb376, 1, none⟩ = some (.int .i64 a1_1) ∧ w'.cell? ⟨gb376, 2, none⟩ = some (.int .i64 a1_2)) spec_l01Text.tab1 spec_l01Text.bits1 (e3 BK376) (fun hHeld HT_ HW_ => ?_)
     generalize w10.drew = w11 at BK376 HB hHeld ⊢
     refine pu 0 (some 5) (tA 14 1) HT_ ?_
     refine pu 4 (some 9) (tA 14 17) HT_ ?_
     refine pu 9 (some 14) (tA 14 529) HT_ ?_
     refine tk3 1 (some 6) (tA 14 531) HT_ HW_ hHeld ?_
     refine tk3 5 (some 10) (tA 14 563) HT_ HW_ hHeld ?_
     refine tk3 10 (some 15) (tA 14 1587) HT_ HW_ hHeld ?_
     refine o1 2 (some 7) (tA 14 1591) HT_ (fun K hK => ?_)
     refine gs Tryz.func67 #[.int .i64 a1_1] ?_
     with_reducible refine (spec_l01Dec.calls k a1_1 t377 _ A3.out).mono ?_
     rintro e w12 ⟨rfl, hb⟩
     refine ⟨_, rfl, ?_⟩
     replace BK376 := bb BK376 hb
     replace HB := bs hb
     (try clear hb)
     (try clear hb2)
     (try clear hk)
     (try clear hi)
     refine hK.out _ _ (e3 BK376) (fun hHeld => ?_)
     clear hK K
     refine nm (some 7) ?_
     refine pu 3 (some 8) (tA 14 1599) HT_ ?_
     refine o1 6 (some 11) (tA 14 1663) HT_ (fun K hK => ?_)
     refine gs Tryz.func67 #[.int .i64 a1_2] ?_
     with_reducible refine (spec_l01Dec.calls k a1_2 t378 _ A5.out).mono ?_
     rintro e w13 ⟨rfl, hb⟩
     refine ⟨_, rfl, ?_⟩
     replace BK376 := bb BK376 hb
     replace HB := bs hb
     (try clear hb)
     (try clear hb2)
     (try clear hk)
     (try clear hi)
     refine hK.out _ _ (e3 BK376) (fun hHeld => ?_)
     clear hK K
     refine nm (some 11) ?_
     refine pu 7 (some 12) (tA 14 1791) HT_ ?_
     refine pu 8 (some 13) (tA 14 2047) HT_ ?_
     refine o1 11 (some 16) (tA 14 4095) HT_ (fun K hK => ?_)
     refine gs Tryz.func67 #[.int .i64 a1_0] ?_
     with_reducible refine (spec_l01Dec.calls k a1_0 t379 _ A8.out).mono ?_
     rintro e w14 ⟨rfl, hb⟩
     refine ⟨_, rfl, ?_⟩
     replace BK376 := bb BK376 hb
     replace HB := bs hb
     (try clear hb)
     (try clear hb2)
     (try clear hk)
     (try clear hi)
     refine hK.out _ _ (e3 BK376) (fun hHeld => ?_)
     clear hK K
     refine nm (some 16) ?_
     refine pu 12 (some 17) (tA 14 8191) HT_ ?_
     refine pu 13 (some 4) (tA 14 16383) HT_ ?_
     refine done_ (done_of HT_.out (by kernel_rfl)) ?_
     try go_wp2
     go_ret
     exact ⟨er, bl⟩
    ·exact absurd H (by simp)
   ·exact absurd H (by simp)
  ·exact absurd H (by simp)
 ·exact absurd H (by simp)

/-! ### spec_BallText: function 13 -/
def spec_BallText.f (k : Nat) (a0 : Int) (a1_0 : Int) (a1_1 : Int) (a1_2 : Int) : Option (ByteArray × Int) := (spec_l01Code.f k a0 (([(⟨a1_0, a1_1, a1_2⟩ : S35)] : List (S35)))).bind fun t384 => (if t384 = 0 then ((spec_l01Text.f k a0 a1_0 a1_1 a1_2).bind fun t385 => (some (t385, 0))) else (some ((⟨#[]⟩ : ByteArray), t384)))
set_option maxHeartbeats 8000000 in
set_option maxRecDepth 100000 in
theorem spec_BallText.calls (k : Nat) (a0 : Int) (a1_0 : Int) (a1_1 : Int) (a1_2 : Int) (r1 : ByteArray) (r2 : Int) (w : World) (h : spec_BallText.f k a0 a1_0 a1_1 a1_2 = some (r1, r2)) :
  Calls Tryz.prog 13 #[.int .i64 a0, .agg #[.int .i64 a1_0, .int .i64 a1_1, .int .i64 a1_2]] w fun e w' => e = .returned (.tuple #[.string r1, .int .i64 r2]) ∧ Below w.heap.size w w' := by
 have hu35 := Tryz.underlying35
 have HB := Aside0.mk (Below.refl w.heap.size w)
 unfold spec_BallText.f at h
 have H := h
 clear h
 obtain ⟨y381, hy381⟩ : ∃ y_ : List (S35), y_ = (([(⟨a1_0, a1_1, a1_2⟩ : S35)] : List (S35))) := ⟨_, rfl⟩
 replace H : ((spec_l01Code.f k a0 y381).bind fun t384 => (if t384 = 0 then ((spec_l01Text.f k a0 a1_0 a1_1 a1_2).bind fun t385 => (some (t385, 0))) else (some ((⟨#[]⟩ : ByteArray), t384)))) = some (r1, r2) := by first | exact hy381 ▸ H | exact H
 have Ny381 := Aside0.mk hy381
 clear hy381
 replace H := zi H
 obtain ⟨t384, A3, H⟩ := H
 try dsimp only at H
 replace H := ii H
 rcases H with ⟨c4, H⟩ | ⟨c4, H⟩
 ·obtain ⟨c4b0, c4b1⟩ := zz c4
  clear c4
  replace H := zi H
  obtain ⟨t385, A5, H⟩ := H
  try dsimp only at H
  simp only [Option.some.injEq, Prod.mk.injEq] at H
  obtain ⟨rfl, rfl⟩ := H
  go_enter Tryz.func13, Tryz.ntmps13
  go_wp2_with (first | ((with_reducible refine zg 3 rfl ?_); refine z3 3 35 a1_0 a1_1 a1_2 ?_; intro gb380 hg w6 BK380 hb; have GW380 := sg hg; replace HB := bs hb; clear hb hg; obtain ⟨hcz7_0, hcz7_1, hcz7_2, hfz7_0, hfz7_1, hfz7_2⟩ := cq3 BK380) | ((with_reducible refine zg 9 rfl ?_); refine Kd.R_lit k35 _ 35 ?hg (N := 9) ?hd (xs := ([(⟨a1_0, a1_1, a1_2⟩ : S35)] : List (S35))) (inner := [.int .i64 a1_0, .int .i64 a1_1, .int .i64 a1_2]) (ok := fun _ => True) (okp := fun _ => True) ?hr ?hp (fun _ hk => hk) trivial (Below.refl _ _) (Nat.le_refl _) (by simp) ?_; (case hd => rfl); (case hg => rfl); (case hr => first | (go_simp; done) | (go_simp; rfl)); (case hp => exact (Reps.c3 (show Kd.M k35 _ _ _ (⟨a1_0, a1_1, a1_2⟩ : S35) [.int .i64 a1_0, .int .i64 a1_1, .int .i64 a1_2] from (k35_mkM _ _ _ (⟨a1_0, a1_1, a1_2⟩ : S35) )) (Reps.none _ _))); intro v382 w8 ho9 hb hg_ hnew_; clear hg_ hnew_; (first | rw [← Ny381.out] at ho9 | (simp only [Int.reduceToNat] at ho9; rw [← Ny381.out] at ho9)); have HO383 := Aside0.mk (Kd.R_lower (Kd.R_newB ho9 (g := gb380) (o := .cells #[.int .i64 a1_0, .int .i64 a1_1, .int .i64 a1_2] 35 (0, 0)) (be BK380)) (below_size (bl))); replace BK380 := bb BK380 hb; replace HB := bs hb; clear hb ho9; obtain ⟨Ao10, co10, eo10⟩ := Kd.R_slice HO383.out; subst eo10) | ((with_reducible refine zf 41 rfl ?_); refine g1 (some 10) Tryz.func41 #[.int .i64 a0, .slice Ao10 y381.length co10] ?_; (with_reducible refine (spec_l01Code.calls k a0 _ _ y381 t384 _ ?side1 ?side2 A3.out).mono ?_); (case side1 => repeat (first | exact (Kd.R_reads' HO383.out).2.2 | (with_reducible refine Kd.C_alloc ?_ _) | (with_reducible refine Kd.C_drewN ?_ _) | (with_reducible refine Kd.C_drew ?_))); (case side2 => exact (Kd.R_reads' HO383.out).2.1); rintro e w11 ⟨rfl, hb⟩; refine ⟨_, rfl, ?_⟩; replace HO383 := Aside0.mk (Kd.R_below (by (with_reducible repeat (first | apply Kd.R_alloc | apply Kd.R_drewN | apply Kd.R_drew)); exact HO383.out) hb); replace BK380 := bb BK380 hb; replace HB := bs hb; (try clear hb); obtain ⟨hcz12_0, hcz12_1, hcz12_2, hfz12_0, hfz12_1, hfz12_2⟩ := cq3 BK380) | ((with_reducible refine zf 42 rfl ?_); refine g1 (some 16) Tryz.func42 #[.int .i64 a0, .agg #[.int .i64 a1_0, .int .i64 a1_1, .int .i64 a1_2]] ?_; (with_reducible refine (spec_l01Text.calls k a0 a1_0 a1_1 a1_2 t385 _ A5.out).mono ?_); rintro e w13 ⟨rfl, hb⟩; refine ⟨_, rfl, ?_⟩; replace HO383 := Aside0.mk (Kd.R_below (by (with_reducible repeat (first | apply Kd.R_alloc | apply Kd.R_drewN | apply Kd.R_drew)); exact HO383.out) hb); replace BK380 := bb BK380 hb; replace HB := bs hb; (try clear hb)))
  go_ret2
  exact ⟨er, bl⟩
 ·obtain ⟨c4b0, c4b1⟩ := zy c4
  simp only [Option.some.injEq, Prod.mk.injEq] at H
  obtain ⟨rfl, rfl⟩ := H
  go_enter Tryz.func13, Tryz.ntmps13
  go_wp2_with (first | ((with_reducible refine zg 3 rfl ?_); refine z3 3 35 a1_0 a1_1 a1_2 ?_; intro gb380 hg w14 BK380 hb; have GW380 := sg hg; replace HB := bs hb; clear hb hg; obtain ⟨hcz15_0, hcz15_1, hcz15_2, hfz15_0, hfz15_1, hfz15_2⟩ := cq3 BK380) | ((with_reducible refine zg 9 rfl ?_); refine Kd.R_lit k35 _ 35 ?hg (N := 9) ?hd (xs := ([(⟨a1_0, a1_1, a1_2⟩ : S35)] : List (S35))) (inner := [.int .i64 a1_0, .int .i64 a1_1, .int .i64 a1_2]) (ok := fun _ => True) (okp := fun _ => True) ?hr ?hp (fun _ hk => hk) trivial (Below.refl _ _) (Nat.le_refl _) (by simp) ?_; (case hd => rfl); (case hg => rfl); (case hr => first | (go_simp; done) | (go_simp; rfl)); (case hp => exact (Reps.c3 (show Kd.M k35 _ _ _ (⟨a1_0, a1_1, a1_2⟩ : S35) [.int .i64 a1_0, .int .i64 a1_1, .int .i64 a1_2] from (k35_mkM _ _ _ (⟨a1_0, a1_1, a1_2⟩ : S35) )) (Reps.none _ _))); intro v382 w16 ho17 hb hg_ hnew_; clear hg_ hnew_; (first | rw [← Ny381.out] at ho17 | (simp only [Int.reduceToNat] at ho17; rw [← Ny381.out] at ho17)); have HO383 := Aside0.mk (Kd.R_lower (Kd.R_newB ho17 (g := gb380) (o := .cells #[.int .i64 a1_0, .int .i64 a1_1, .int .i64 a1_2] 35 (0, 0)) (be BK380)) (below_size (bl))); replace BK380 := bb BK380 hb; replace HB := bs hb; clear hb ho17; obtain ⟨Ao18, co18, eo18⟩ := Kd.R_slice HO383.out; subst eo18) | ((with_reducible refine zf 41 rfl ?_); refine g1 (some 10) Tryz.func41 #[.int .i64 a0, .slice Ao18 y381.length co18] ?_; (with_reducible refine (spec_l01Code.calls k a0 _ _ y381 t384 _ ?side1 ?side2 A3.out).mono ?_); (case side1 => repeat (first | exact (Kd.R_reads' HO383.out).2.2 | (with_reducible refine Kd.C_alloc ?_ _) | (with_reducible refine Kd.C_drewN ?_ _) | (with_reducible refine Kd.C_drew ?_))); (case side2 => exact (Kd.R_reads' HO383.out).2.1); rintro e w19 ⟨rfl, hb⟩; refine ⟨_, rfl, ?_⟩; replace HO383 := Aside0.mk (Kd.R_below (by (with_reducible repeat (first | apply Kd.R_alloc | apply Kd.R_drewN | apply Kd.R_drew)); exact HO383.out) hb); replace BK380 := bb BK380 hb; replace HB := bs hb; (try clear hb)))
  go_ret2
  exact ⟨er, bl⟩

/-! ### impl_ParseBall: function 14 -/
def impl_ParseBall.f (k : Nat) (a0 : Int) (a1 : ByteArray) : Option (Int × Int × Int × Int) := (impl_isPrime.f a0).bind fun t387 => (if t387 = true then ((strings_Cut.f k a1 (⟨#[46]⟩ : ByteArray)).bind fun bt388 => ((strings_Cut.f k bt388.2.1 (⟨#[64]⟩ : ByteArray)).bind fun bt391 => ((impl_number.f k bt388.1 12).bind fun bt394 => ((impl_number.f k bt391.1 2).bind fun bt396 => ((impl_number.f k bt391.2.1 2).bind fun bt398 => (if bt394.2 = true then (if bt396.2 = true then (if bt398.2 = true then ((impl_IsBall.f k a0 bt398.1 bt394.1 bt396.1).bind fun t401 => (if t401 = true then (some (bt398.1, bt394.1, bt396.1, 0)) else (some (0, 0, 0, 6)))) else (some (0, 0, 0, 6))) else (some (0, 0, 0, 6))) else (some (0, 0, 0, 6)))))))) else (some (0, 0, 0, 1)))
set_option maxHeartbeats 8000000 in
set_option maxRecDepth 100000 in
theorem impl_ParseBall.calls (k : Nat) (a0 : Int) (a1 : ByteArray) (r1 : Int) (r2 : Int) (r3 : Int) (r4 : Int) (w : World) (h : impl_ParseBall.f k a0 a1 = some (r1, r2, r3, r4)) :
  Calls Tryz.prog 14 #[.int .i64 a0, .string a1] w fun e w' => e = .returned (.tuple #[.agg #[.int .i64 r1, .int .i64 r2, .int .i64 r3], .int .i64 r4]) ∧ Below w.heap.size w w' := by
 have hu35 := Tryz.underlying35
 have HB := Aside0.mk (Below.refl w.heap.size w)
 unfold impl_ParseBall.f at h
 have H := h
 clear h
 replace H := zi H
 obtain ⟨t387, A3, H⟩ := H
 try dsimp only at H
 by_cases c4 : t387 = true
 ·subst c4
  rw [if_pos rfl] at H
  replace H := zi H
  obtain ⟨⟨t388, t389, t390⟩, A5, H⟩ := H
  try dsimp only at H
  replace H := zi H
  obtain ⟨⟨t391, t392, t393⟩, A6, H⟩ := H
  try dsimp only at H
  replace H := zi H
  obtain ⟨⟨t394, t395⟩, A7, H⟩ := H
  try dsimp only at H
  replace H := zi H
  obtain ⟨⟨t396, t397⟩, A8, H⟩ := H
  try dsimp only at H
  replace H := zi H
  obtain ⟨⟨t398, t399⟩, A9, H⟩ := H
  try dsimp only at H
  by_cases c10 : t395 = true
  ·subst c10
   rw [if_pos rfl] at H
   by_cases c11 : t397 = true
   ·subst c11
    rw [if_pos rfl] at H
    by_cases c12 : t399 = true
    ·subst c12
     rw [if_pos rfl] at H
     replace H := zi H
     obtain ⟨t401, A13, H⟩ := H
     try dsimp only at H
     by_cases c14 : t401 = true
     ·subst c14
      rw [if_pos rfl] at H
      simp only [Option.some.injEq, Prod.mk.injEq] at H
      obtain ⟨rfl, rfl, rfl, rfl⟩ := H
      go_enter Tryz.func14, Tryz.ntmps14
      go_wp2_with (first | ((with_reducible refine zg 4 rfl ?_); refine z3 4 35 0 0 0 ?_; intro gb386 hg w15 BK386 hb; have GW386 := sg hg; replace HB := bs hb; clear hb hg) | ((with_reducible refine zf 43 rfl ?_); refine g1 (some 20) Tryz.func43 #[.int .i64 a0] ?_; (with_reducible refine (impl_isPrime.calls a0 true _ A3.out).mono ?_); rintro e w' ⟨rfl, ⟨nd, rfl⟩⟩; refine ⟨_, rfl, ?_⟩; (try (rw [drewN_self w15]; generalize hq_ : World.drewN w15 _ = w15; have n0_ : Aside0 (w15.heap[gb386]? = some (.cells #[.int .i64 0, .int .i64 0, .int .i64 0] 35 (0, 0))) := ⟨by rw [← hq_]; exact (be BK386)⟩; have n1_ : Aside0 (Below w.heap.size w w15) := ⟨by rw [← hq_]; exact (bl)⟩; clear BK386 HB hq_; have BK386 := n0_; have HB := n1_; clear n0_ n1_))) | ((with_reducible refine zf 35 rfl ?_); refine g1 (some 25) Tryz.func35 #[.string a1, .string (⟨#[46]⟩ : ByteArray)] ?_; (with_reducible refine (strings_Cut.calls k a1 (⟨#[46]⟩ : ByteArray) t388 t389 t390 _ A5.out).mono ?_); rintro e w' ⟨rfl, ⟨nd, rfl⟩⟩; refine ⟨_, rfl, ?_⟩; (try (rw [drewN_self w15]; generalize hq_ : World.drewN w15 _ = w15; have n0_ : Aside0 (w15.heap[gb386]? = some (.cells #[.int .i64 0, .int .i64 0, .int .i64 0] 35 (0, 0))) := ⟨by rw [← hq_]; exact (be BK386)⟩; have n1_ : Aside0 (Below w.heap.size w w15) := ⟨by rw [← hq_]; exact (bl)⟩; clear BK386 HB hq_; have BK386 := n0_; have HB := n1_; clear n0_ n1_))) | ((with_reducible refine zf 35 rfl ?_); refine g1 (some 31) Tryz.func35 #[.string t389, .string (⟨#[64]⟩ : ByteArray)] ?_; (with_reducible refine (strings_Cut.calls k t389 (⟨#[64]⟩ : ByteArray) t391 t392 t393 _ A6.out).mono ?_); rintro e w' ⟨rfl, ⟨nd, rfl⟩⟩; refine ⟨_, rfl, ?_⟩; (try (rw [drewN_self w15]; generalize hq_ : World.drewN w15 _ = w15; have n0_ : Aside0 (w15.heap[gb386]? = some (.cells #[.int .i64 0, .int .i64 0, .int .i64 0] 35 (0, 0))) := ⟨by rw [← hq_]; exact (be BK386)⟩; have n1_ : Aside0 (Below w.heap.size w w15) := ⟨by rw [← hq_]; exact (bl)⟩; clear BK386 HB hq_; have BK386 := n0_; have HB := n1_; clear n0_ n1_))) | ((with_reducible refine zf 36 rfl ?_); refine g1 (some 37) Tryz.func36 #[.string t388, .int .i64 12] ?_; (with_reducible refine (impl_number.calls k t388 12 t394 true _ A7.out).mono ?_); rintro e w' ⟨rfl, ⟨nd, rfl⟩⟩; refine ⟨_, rfl, ?_⟩; (try (rw [drewN_self w15]; generalize hq_ : World.drewN w15 _ = w15; have n0_ : Aside0 (w15.heap[gb386]? = some (.cells #[.int .i64 0, .int .i64 0, .int .i64 0] 35 (0, 0))) := ⟨by rw [← hq_]; exact (be BK386)⟩; have n1_ : Aside0 (Below w.heap.size w w15) := ⟨by rw [← hq_]; exact (bl)⟩; clear BK386 HB hq_; have BK386 := n0_; have HB := n1_; clear n0_ n1_))) | ((with_reducible refine zf 36 rfl ?_); refine g1 (some 42) Tryz.func36 #[.string t391, .int .i64 2] ?_; (with_reducible refine (impl_number.calls k t391 2 t396 true _ A8.out).mono ?_); rintro e w' ⟨rfl, ⟨nd, rfl⟩⟩; refine ⟨_, rfl, ?_⟩; (try (rw [drewN_self w15]; generalize hq_ : World.drewN w15 _ = w15; have n0_ : Aside0 (w15.heap[gb386]? = some (.cells #[.int .i64 0, .int .i64 0, .int .i64 0] 35 (0, 0))) := ⟨by rw [← hq_]; exact (be BK386)⟩; have n1_ : Aside0 (Below w.heap.size w w15) := ⟨by rw [← hq_]; exact (bl)⟩; clear BK386 HB hq_; have BK386 := n0_; have HB := n1_; clear n0_ n1_))) | ((with_reducible refine zf 36 rfl ?_); refine g1 (some 47) Tryz.func36 #[.string t392, .int .i64 2] ?_; (with_reducible refine (impl_number.calls k t392 2 t398 true _ A9.out).mono ?_); rintro e w' ⟨rfl, ⟨nd, rfl⟩⟩; refine ⟨_, rfl, ?_⟩; (try (rw [drewN_self w15]; generalize hq_ : World.drewN w15 _ = w15; have n0_ : Aside0 (w15.heap[gb386]? = some (.cells #[.int .i64 0, .int .i64 0, .int .i64 0] 35 (0, 0))) := ⟨by rw [← hq_]; exact (be BK386)⟩; have n1_ : Aside0 (Below w.heap.size w w15) := ⟨by rw [← hq_]; exact (bl)⟩; clear BK386 HB hq_; have BK386 := n0_; have HB := n1_; clear n0_ n1_))) | ((with_reducible refine zg 18 rfl ?_); refine z3 18 35 0 0 0 ?_; intro gb400 hg w16 BK400 hb; have GW400 := sg hg; have NB386_400 := nl hg BK386; replace BK386 := bb BK386 hb; replace HB := bs hb; clear hb hg; obtain ⟨hnb17, hnc17⟩ := zm NB386_400; obtain ⟨hcz18_0, hcz18_1, hcz18_2, hfz18_0, hfz18_1, hfz18_2⟩ := cq3 BK400) | (go_at_call 39; (with_reducible refine (impl_IsBall.calls k a0 t398 t394 t396 true _ A13.out).mono ?_); rintro e w19 ⟨rfl, hb⟩; replace BK386 := Aside0.mk (blk_below (g := gb386) (o := .cells #[.int .i64 0, .int .i64 0, .int .i64 0] 35 (0, 0)) (bp) hb); replace BK400 := Aside0.mk (blk_below (g := gb400) (o := .cells #[.int .i64 t398, .int .i64 t394, .int .i64 t396] 35 (0, 0)) (bp) hb); replace HB := bs hb; (try clear hb); obtain ⟨hcz20_0, hcz20_1, hcz20_2, hfz20_0, hfz20_1, hfz20_2⟩ := cq3 BK400; obtain ⟨hcz21_0, hcz21_1, hcz21_2, hfz21_0, hfz21_1, hfz21_2⟩ := cq3 BK386))
      refine bodyPost_ret (results_ct rfl _ _ gb386 35 #[.int .i64 t398, .int .i64 t394, .int .i64 t396] (0, 0) _ rfl (bp) Tryz.underlying35 rfl (by kernel_rfl)) rfl ?_
      exact ⟨er, bl⟩
     ·replace c14 := Bool.eq_false_iff.mpr c14
      subst c14
      have H1 : (some (0, 0, 0, 6)) = some (r1, r2, r3, r4) := by rw [if_neg (show ¬ (false = true) by decide)] at H; exact H
      clear H
      have H := H1
      clear H1
      simp only [Option.some.injEq, Prod.mk.injEq] at H
      obtain ⟨rfl, rfl, rfl, rfl⟩ := H
      go_enter Tryz.func14, Tryz.ntmps14
      go_wp2_with (first | ((with_reducible refine zg 4 rfl ?_); refine z3 4 35 0 0 0 ?_; intro gb386 hg w22 BK386 hb; have GW386 := sg hg; replace HB := bs hb; clear hb hg) | ((with_reducible refine zf 43 rfl ?_); refine g1 (some 20) Tryz.func43 #[.int .i64 a0] ?_; (with_reducible refine (impl_isPrime.calls a0 true _ A3.out).mono ?_); rintro e w' ⟨rfl, ⟨nd, rfl⟩⟩; refine ⟨_, rfl, ?_⟩; (try (rw [drewN_self w22]; generalize hq_ : World.drewN w22 _ = w22; have n0_ : Aside0 (w22.heap[gb386]? = some (.cells #[.int .i64 0, .int .i64 0, .int .i64 0] 35 (0, 0))) := ⟨by rw [← hq_]; exact (be BK386)⟩; have n1_ : Aside0 (Below w.heap.size w w22) := ⟨by rw [← hq_]; exact (bl)⟩; clear BK386 HB hq_; have BK386 := n0_; have HB := n1_; clear n0_ n1_))) | ((with_reducible refine zf 35 rfl ?_); refine g1 (some 25) Tryz.func35 #[.string a1, .string (⟨#[46]⟩ : ByteArray)] ?_; (with_reducible refine (strings_Cut.calls k a1 (⟨#[46]⟩ : ByteArray) t388 t389 t390 _ A5.out).mono ?_); rintro e w' ⟨rfl, ⟨nd, rfl⟩⟩; refine ⟨_, rfl, ?_⟩; (try (rw [drewN_self w22]; generalize hq_ : World.drewN w22 _ = w22; have n0_ : Aside0 (w22.heap[gb386]? = some (.cells #[.int .i64 0, .int .i64 0, .int .i64 0] 35 (0, 0))) := ⟨by rw [← hq_]; exact (be BK386)⟩; have n1_ : Aside0 (Below w.heap.size w w22) := ⟨by rw [← hq_]; exact (bl)⟩; clear BK386 HB hq_; have BK386 := n0_; have HB := n1_; clear n0_ n1_))) | ((with_reducible refine zf 35 rfl ?_); refine g1 (some 31) Tryz.func35 #[.string t389, .string (⟨#[64]⟩ : ByteArray)] ?_; (with_reducible refine (strings_Cut.calls k t389 (⟨#[64]⟩ : ByteArray) t391 t392 t393 _ A6.out).mono ?_); rintro e w' ⟨rfl, ⟨nd, rfl⟩⟩; refine ⟨_, rfl, ?_⟩; (try (rw [drewN_self w22]; generalize hq_ : World.drewN w22 _ = w22; have n0_ : Aside0 (w22.heap[gb386]? = some (.cells #[.int .i64 0, .int .i64 0, .int .i64 0] 35 (0, 0))) := ⟨by rw [← hq_]; exact (be BK386)⟩; have n1_ : Aside0 (Below w.heap.size w w22) := ⟨by rw [← hq_]; exact (bl)⟩; clear BK386 HB hq_; have BK386 := n0_; have HB := n1_; clear n0_ n1_))) | ((with_reducible refine zf 36 rfl ?_); refine g1 (some 37) Tryz.func36 #[.string t388, .int .i64 12] ?_; (with_reducible refine (impl_number.calls k t388 12 t394 true _ A7.out).mono ?_); rintro e w' ⟨rfl, ⟨nd, rfl⟩⟩; refine ⟨_, rfl, ?_⟩; (try (rw [drewN_self w22]; generalize hq_ : World.drewN w22 _ = w22; have n0_ : Aside0 (w22.heap[gb386]? = some (.cells #[.int .i64 0, .int .i64 0, .int .i64 0] 35 (0, 0))) := ⟨by rw [← hq_]; exact (be BK386)⟩; have n1_ : Aside0 (Below w.heap.size w w22) := ⟨by rw [← hq_]; exact (bl)⟩; clear BK386 HB hq_; have BK386 := n0_; have HB := n1_; clear n0_ n1_))) | ((with_reducible refine zf 36 rfl ?_); refine g1 (some 42) Tryz.func36 #[.string t391, .int .i64 2] ?_; (with_reducible refine (impl_number.calls k t391 2 t396 true _ A8.out).mono ?_); rintro e w' ⟨rfl, ⟨nd, rfl⟩⟩; refine ⟨_, rfl, ?_⟩; (try (rw [drewN_self w22]; generalize hq_ : World.drewN w22 _ = w22; have n0_ : Aside0 (w22.heap[gb386]? = some (.cells #[.int .i64 0, .int .i64 0, .int .i64 0] 35 (0, 0))) := ⟨by rw [← hq_]; exact (be BK386)⟩; have n1_ : Aside0 (Below w.heap.size w w22) := ⟨by rw [← hq_]; exact (bl)⟩; clear BK386 HB hq_; have BK386 := n0_; have HB := n1_; clear n0_ n1_))) | ((with_reducible refine zf 36 rfl ?_); refine g1 (some 47) Tryz.func36 #[.string t392, .int .i64 2] ?_; (with_reducible refine (impl_number.calls k t392 2 t398 true _ A9.out).mono ?_); rintro e w' ⟨rfl, ⟨nd, rfl⟩⟩; refine ⟨_, rfl, ?_⟩; (try (rw [drewN_self w22]; generalize hq_ : World.drewN w22 _ = w22; have n0_ : Aside0 (w22.heap[gb386]? = some (.cells #[.int .i64 0, .int .i64 0, .int .i64 0] 35 (0, 0))) := ⟨by rw [← hq_]; exact (be BK386)⟩; have n1_ : Aside0 (Below w.heap.size w w22) := ⟨by rw [← hq_]; exact (bl)⟩; clear BK386 HB hq_; have BK386 := n0_; have HB := n1_; clear n0_ n1_))) | ((with_reducible refine zg 18 rfl ?_); refine z3 18 35 0 0 0 ?_; intro gb400 hg w23 BK400 hb; have GW400 := sg hg; have NB386_400 := nl hg BK386; replace BK386 := bb BK386 hb; replace HB := bs hb; clear hb hg; obtain ⟨hnb24, hnc24⟩ := zm NB386_400; obtain ⟨hcz25_0, hcz25_1, hcz25_2, hfz25_0, hfz25_1, hfz25_2⟩ := cq3 BK400) | (go_at_call 39; (with_reducible refine (impl_IsBall.calls k a0 t398 t394 t396 false _ A13.out).mono ?_); rintro e w26 ⟨rfl, hb⟩; replace BK386 := Aside0.mk (blk_below (g := gb386) (o := .cells #[.int .i64 0, .int .i64 0, .int .i64 0] 35 (0, 0)) (bp) hb); replace BK400 := Aside0.mk (blk_below (g := gb400) (o := .cells #[.int .i64 t398, .int .i64 t394, .int .i64 t396] 35 (0, 0)) (bp) hb); replace HB := bs hb; (try clear hb); obtain ⟨hcz27_0, hcz27_1, hcz27_2, hfz27_0, hfz27_1, hfz27_2⟩ := cq3 BK386))
      refine bodyPost_ret (results_ct rfl _ _ gb386 35 #[.int .i64 0, .int .i64 0, .int .i64 0] (0, 0) _ rfl (bp) Tryz.underlying35 rfl (by kernel_rfl)) rfl ?_
      exact ⟨er, bl⟩
    ·replace c12 := Bool.eq_false_iff.mpr c12
     subst c12
     have H1 : (some (0, 0, 0, 6)) = some (r1, r2, r3, r4) := by rw [if_neg (show ¬ (false = true) by decide)] at H; exact H
     clear H
     have H := H1
     clear H1
     simp only [Option.some.injEq, Prod.mk.injEq] at H
     obtain ⟨rfl, rfl, rfl, rfl⟩ := H
     go_enter Tryz.func14, Tryz.ntmps14
     go_wp2_with (first | ((with_reducible refine zg 4 rfl ?_); refine z3 4 35 0 0 0 ?_; intro gb386 hg w28 BK386 hb; have GW386 := sg hg; replace HB := bs hb; clear hb hg) | ((with_reducible refine zf 43 rfl ?_); refine g1 (some 20) Tryz.func43 #[.int .i64 a0] ?_; (with_reducible refine (impl_isPrime.calls a0 true _ A3.out).mono ?_); rintro e w' ⟨rfl, ⟨nd, rfl⟩⟩; refine ⟨_, rfl, ?_⟩; (try (rw [drewN_self w28]; generalize hq_ : World.drewN w28 _ = w28; have n0_ : Aside0 (w28.heap[gb386]? = some (.cells #[.int .i64 0, .int .i64 0, .int .i64 0] 35 (0, 0))) := ⟨by rw [← hq_]; exact (be BK386)⟩; have n1_ : Aside0 (Below w.heap.size w w28) := ⟨by rw [← hq_]; exact (bl)⟩; clear BK386 HB hq_; have BK386 := n0_; have HB := n1_; clear n0_ n1_))) | ((with_reducible refine zf 35 rfl ?_); refine g1 (some 25) Tryz.func35 #[.string a1, .string (⟨#[46]⟩ : ByteArray)] ?_; (with_reducible refine (strings_Cut.calls k a1 (⟨#[46]⟩ : ByteArray) t388 t389 t390 _ A5.out).mono ?_); rintro e w' ⟨rfl, ⟨nd, rfl⟩⟩; refine ⟨_, rfl, ?_⟩; (try (rw [drewN_self w28]; generalize hq_ : World.drewN w28 _ = w28; have n0_ : Aside0 (w28.heap[gb386]? = some (.cells #[.int .i64 0, .int .i64 0, .int .i64 0] 35 (0, 0))) := ⟨by rw [← hq_]; exact (be BK386)⟩; have n1_ : Aside0 (Below w.heap.size w w28) := ⟨by rw [← hq_]; exact (bl)⟩; clear BK386 HB hq_; have BK386 := n0_; have HB := n1_; clear n0_ n1_))) | ((with_reducible refine zf 35 rfl ?_); refine g1 (some 31) Tryz.func35 #[.string t389, .string (⟨#[64]⟩ : ByteArray)] ?_; (with_reducible refine (strings_Cut.calls k t389 (⟨#[64]⟩ : ByteArray) t391 t392 t393 _ A6.out).mono ?_); rintro e w' ⟨rfl, ⟨nd, rfl⟩⟩; refine ⟨_, rfl, ?_⟩; (try (rw [drewN_self w28]; generalize hq_ : World.drewN w28 _ = w28; have n0_ : Aside0 (w28.heap[gb386]? = some (.cells #[.int .i64 0, .int .i64 0, .int .i64 0] 35 (0, 0))) := ⟨by rw [← hq_]; exact (be BK386)⟩; have n1_ : Aside0 (Below w.heap.size w w28) := ⟨by rw [← hq_]; exact (bl)⟩; clear BK386 HB hq_; have BK386 := n0_; have HB := n1_; clear n0_ n1_))) | ((with_reducible refine zf 36 rfl ?_); refine g1 (some 37) Tryz.func36 #[.string t388, .int .i64 12] ?_; (with_reducible refine (impl_number.calls k t388 12 t394 true _ A7.out).mono ?_); rintro e w' ⟨rfl, ⟨nd, rfl⟩⟩; refine ⟨_, rfl, ?_⟩; (try (rw [drewN_self w28]; generalize hq_ : World.drewN w28 _ = w28; have n0_ : Aside0 (w28.heap[gb386]? = some (.cells #[.int .i64 0, .int .i64 0, .int .i64 0] 35 (0, 0))) := ⟨by rw [← hq_]; exact (be BK386)⟩; have n1_ : Aside0 (Below w.heap.size w w28) := ⟨by rw [← hq_]; exact (bl)⟩; clear BK386 HB hq_; have BK386 := n0_; have HB := n1_; clear n0_ n1_))) | ((with_reducible refine zf 36 rfl ?_); refine g1 (some 42) Tryz.func36 #[.string t391, .int .i64 2] ?_; (with_reducible refine (impl_number.calls k t391 2 t396 true _ A8.out).mono ?_); rintro e w' ⟨rfl, ⟨nd, rfl⟩⟩; refine ⟨_, rfl, ?_⟩; (try (rw [drewN_self w28]; generalize hq_ : World.drewN w28 _ = w28; have n0_ : Aside0 (w28.heap[gb386]? = some (.cells #[.int .i64 0, .int .i64 0, .int .i64 0] 35 (0, 0))) := ⟨by rw [← hq_]; exact (be BK386)⟩; have n1_ : Aside0 (Below w.heap.size w w28) := ⟨by rw [← hq_]; exact (bl)⟩; clear BK386 HB hq_; have BK386 := n0_; have HB := n1_; clear n0_ n1_))) | ((with_reducible refine zf 36 rfl ?_); refine g1 (some 47) Tryz.func36 #[.string t392, .int .i64 2] ?_; (with_reducible refine (impl_number.calls k t392 2 t398 false _ A9.out).mono ?_); rintro e w' ⟨rfl, ⟨nd, rfl⟩⟩; refine ⟨_, rfl, ?_⟩; (try (rw [drewN_self w28]; generalize hq_ : World.drewN w28 _ = w28; have n0_ : Aside0 (w28.heap[gb386]? = some (.cells #[.int .i64 0, .int .i64 0, .int .i64 0] 35 (0, 0))) := ⟨by rw [← hq_]; exact (be BK386)⟩; have n1_ : Aside0 (Below w.heap.size w w28) := ⟨by rw [← hq_]; exact (bl)⟩; clear BK386 HB hq_; have BK386 := n0_; have HB := n1_; clear n0_ n1_))) | ((with_reducible refine zg 18 rfl ?_); refine z3 18 35 0 0 0 ?_; intro gb400 hg w29 BK400 hb; have GW400 := sg hg; have NB386_400 := nl hg BK386; replace BK386 := bb BK386 hb; replace HB := bs hb; clear hb hg; obtain ⟨hnb30, hnc30⟩ := zm NB386_400; obtain ⟨hcz31_0, hcz31_1, hcz31_2, hfz31_0, hfz31_1, hfz31_2⟩ := cq3 BK400; obtain ⟨hcz32_0, hcz32_1, hcz32_2, hfz32_0, hfz32_1, hfz32_2⟩ := cq3 BK386))
     refine bodyPost_ret (results_ct rfl _ _ gb386 35 #[.int .i64 0, .int .i64 0, .int .i64 0] (0, 0) _ rfl (bp) Tryz.underlying35 rfl (by kernel_rfl)) rfl ?_
     exact ⟨er, bl⟩
   ·replace c11 := Bool.eq_false_iff.mpr c11
    subst c11
    have H1 : (some (0, 0, 0, 6)) = some (r1, r2, r3, r4) := by rw [if_neg (show ¬ (false = true) by decide)] at H; exact H
    clear H
    have H := H1
    clear H1
    simp only [Option.some.injEq, Prod.mk.injEq] at H
    obtain ⟨rfl, rfl, rfl, rfl⟩ := H
    go_enter Tryz.func14, Tryz.ntmps14
    go_wp2_with (first | ((with_reducible refine zg 4 rfl ?_); refine z3 4 35 0 0 0 ?_; intro gb386 hg w33 BK386 hb; have GW386 := sg hg; replace HB := bs hb; clear hb hg) | ((with_reducible refine zf 43 rfl ?_); refine g1 (some 20) Tryz.func43 #[.int .i64 a0] ?_; (with_reducible refine (impl_isPrime.calls a0 true _ A3.out).mono ?_); rintro e w' ⟨rfl, ⟨nd, rfl⟩⟩; refine ⟨_, rfl, ?_⟩; (try (rw [drewN_self w33]; generalize hq_ : World.drewN w33 _ = w33; have n0_ : Aside0 (w33.heap[gb386]? = some (.cells #[.int .i64 0, .int .i64 0, .int .i64 0] 35 (0, 0))) := ⟨by rw [← hq_]; exact (be BK386)⟩; have n1_ : Aside0 (Below w.heap.size w w33) := ⟨by rw [← hq_]; exact (bl)⟩; clear BK386 HB hq_; have BK386 := n0_; have HB := n1_; clear n0_ n1_))) | ((with_reducible refine zf 35 rfl ?_); refine g1 (some 25) Tryz.func35 #[.string a1, .string (⟨#[46]⟩ : ByteArray)] ?_; (with_reducible refine (strings_Cut.calls k a1 (⟨#[46]⟩ : ByteArray) t388 t389 t390 _ A5.out).mono ?_); rintro e w' ⟨rfl, ⟨nd, rfl⟩⟩; refine ⟨_, rfl, ?_⟩; (try (rw [drewN_self w33]; generalize hq_ : World.drewN w33 _ = w33; have n0_ : Aside0 (w33.heap[gb386]? = some (.cells #[.int .i64 0, .int .i64 0, .int .i64 0] 35 (0, 0))) := ⟨by rw [← hq_]; exact (be BK386)⟩; have n1_ : Aside0 (Below w.heap.size w w33) := ⟨by rw [← hq_]; exact (bl)⟩; clear BK386 HB hq_; have BK386 := n0_; have HB := n1_; clear n0_ n1_))) | ((with_reducible refine zf 35 rfl ?_); refine g1 (some 31) Tryz.func35 #[.string t389, .string (⟨#[64]⟩ : ByteArray)] ?_; (with_reducible refine (strings_Cut.calls k t389 (⟨#[64]⟩ : ByteArray) t391 t392 t393 _ A6.out).mono ?_); rintro e w' ⟨rfl, ⟨nd, rfl⟩⟩; refine ⟨_, rfl, ?_⟩; (try (rw [drewN_self w33]; generalize hq_ : World.drewN w33 _ = w33; have n0_ : Aside0 (w33.heap[gb386]? = some (.cells #[.int .i64 0, .int .i64 0, .int .i64 0] 35 (0, 0))) := ⟨by rw [← hq_]; exact (be BK386)⟩; have n1_ : Aside0 (Below w.heap.size w w33) := ⟨by rw [← hq_]; exact (bl)⟩; clear BK386 HB hq_; have BK386 := n0_; have HB := n1_; clear n0_ n1_))) | ((with_reducible refine zf 36 rfl ?_); refine g1 (some 37) Tryz.func36 #[.string t388, .int .i64 12] ?_; (with_reducible refine (impl_number.calls k t388 12 t394 true _ A7.out).mono ?_); rintro e w' ⟨rfl, ⟨nd, rfl⟩⟩; refine ⟨_, rfl, ?_⟩; (try (rw [drewN_self w33]; generalize hq_ : World.drewN w33 _ = w33; have n0_ : Aside0 (w33.heap[gb386]? = some (.cells #[.int .i64 0, .int .i64 0, .int .i64 0] 35 (0, 0))) := ⟨by rw [← hq_]; exact (be BK386)⟩; have n1_ : Aside0 (Below w.heap.size w w33) := ⟨by rw [← hq_]; exact (bl)⟩; clear BK386 HB hq_; have BK386 := n0_; have HB := n1_; clear n0_ n1_))) | ((with_reducible refine zf 36 rfl ?_); refine g1 (some 42) Tryz.func36 #[.string t391, .int .i64 2] ?_; (with_reducible refine (impl_number.calls k t391 2 t396 false _ A8.out).mono ?_); rintro e w' ⟨rfl, ⟨nd, rfl⟩⟩; refine ⟨_, rfl, ?_⟩; (try (rw [drewN_self w33]; generalize hq_ : World.drewN w33 _ = w33; have n0_ : Aside0 (w33.heap[gb386]? = some (.cells #[.int .i64 0, .int .i64 0, .int .i64 0] 35 (0, 0))) := ⟨by rw [← hq_]; exact (be BK386)⟩; have n1_ : Aside0 (Below w.heap.size w w33) := ⟨by rw [← hq_]; exact (bl)⟩; clear BK386 HB hq_; have BK386 := n0_; have HB := n1_; clear n0_ n1_))) | ((with_reducible refine zf 36 rfl ?_); refine g1 (some 47) Tryz.func36 #[.string t392, .int .i64 2] ?_; (with_reducible refine (impl_number.calls k t392 2 t398 t399 _ A9.out).mono ?_); rintro e w' ⟨rfl, ⟨nd, rfl⟩⟩; refine ⟨_, rfl, ?_⟩; (try (rw [drewN_self w33]; generalize hq_ : World.drewN w33 _ = w33; have n0_ : Aside0 (w33.heap[gb386]? = some (.cells #[.int .i64 0, .int .i64 0, .int .i64 0] 35 (0, 0))) := ⟨by rw [← hq_]; exact (be BK386)⟩; have n1_ : Aside0 (Below w.heap.size w w33) := ⟨by rw [← hq_]; exact (bl)⟩; clear BK386 HB hq_; have BK386 := n0_; have HB := n1_; clear n0_ n1_))) | ((with_reducible refine zg 18 rfl ?_); refine z3 18 35 0 0 0 ?_; intro gb400 hg w34 BK400 hb; have GW400 := sg hg; have NB386_400 := nl hg BK386; replace BK386 := bb BK386 hb; replace HB := bs hb; clear hb hg; obtain ⟨hnb35, hnc35⟩ := zm NB386_400; obtain ⟨hcz36_0, hcz36_1, hcz36_2, hfz36_0, hfz36_1, hfz36_2⟩ := cq3 BK400; obtain ⟨hcz37_0, hcz37_1, hcz37_2, hfz37_0, hfz37_1, hfz37_2⟩ := cq3 BK386))
    refine bodyPost_ret (results_ct rfl _ _ gb386 35 #[.int .i64 0, .int .i64 0, .int .i64 0] (0, 0) _ rfl (bp) Tryz.underlying35 rfl (by kernel_rfl)) rfl ?_
    exact ⟨er, bl⟩
  ·replace c10 := Bool.eq_false_iff.mpr c10
   subst c10
   have H1 : (some (0, 0, 0, 6)) = some (r1, r2, r3, r4) := by rw [if_neg (show ¬ (false = true) by decide)] at H; exact H
   clear H
   have H := H1
   clear H1
   simp only [Option.some.injEq, Prod.mk.injEq] at H
   obtain ⟨rfl, rfl, rfl, rfl⟩ := H
   go_enter Tryz.func14, Tryz.ntmps14
   go_wp2_with (first | ((with_reducible refine zg 4 rfl ?_); refine z3 4 35 0 0 0 ?_; intro gb386 hg w38 BK386 hb; have GW386 := sg hg; replace HB := bs hb; clear hb hg) | ((with_reducible refine zf 43 rfl ?_); refine g1 (some 20) Tryz.func43 #[.int .i64 a0] ?_; (with_reducible refine (impl_isPrime.calls a0 true _ A3.out).mono ?_); rintro e w' ⟨rfl, ⟨nd, rfl⟩⟩; refine ⟨_, rfl, ?_⟩; (try (rw [drewN_self w38]; generalize hq_ : World.drewN w38 _ = w38; have n0_ : Aside0 (w38.heap[gb386]? = some (.cells #[.int .i64 0, .int .i64 0, .int .i64 0] 35 (0, 0))) := ⟨by rw [← hq_]; exact (be BK386)⟩; have n1_ : Aside0 (Below w.heap.size w w38) := ⟨by rw [← hq_]; exact (bl)⟩; clear BK386 HB hq_; have BK386 := n0_; have HB := n1_; clear n0_ n1_))) | ((with_reducible refine zf 35 rfl ?_); refine g1 (some 25) Tryz.func35 #[.string a1, .string (⟨#[46]⟩ : ByteArray)] ?_; (with_reducible refine (strings_Cut.calls k a1 (⟨#[46]⟩ : ByteArray) t388 t389 t390 _ A5.out).mono ?_); rintro e w' ⟨rfl, ⟨nd, rfl⟩⟩; refine ⟨_, rfl, ?_⟩; (try (rw [drewN_self w38]; generalize hq_ : World.drewN w38 _ = w38; have n0_ : Aside0 (w38.heap[gb386]? = some (.cells #[.int .i64 0, .int .i64 0, .int .i64 0] 35 (0, 0))) := ⟨by rw [← hq_]; exact (be BK386)⟩; have n1_ : Aside0 (Below w.heap.size w w38) := ⟨by rw [← hq_]; exact (bl)⟩; clear BK386 HB hq_; have BK386 := n0_; have HB := n1_; clear n0_ n1_))) | ((with_reducible refine zf 35 rfl ?_); refine g1 (some 31) Tryz.func35 #[.string t389, .string (⟨#[64]⟩ : ByteArray)] ?_; (with_reducible refine (strings_Cut.calls k t389 (⟨#[64]⟩ : ByteArray) t391 t392 t393 _ A6.out).mono ?_); rintro e w' ⟨rfl, ⟨nd, rfl⟩⟩; refine ⟨_, rfl, ?_⟩; (try (rw [drewN_self w38]; generalize hq_ : World.drewN w38 _ = w38; have n0_ : Aside0 (w38.heap[gb386]? = some (.cells #[.int .i64 0, .int .i64 0, .int .i64 0] 35 (0, 0))) := ⟨by rw [← hq_]; exact (be BK386)⟩; have n1_ : Aside0 (Below w.heap.size w w38) := ⟨by rw [← hq_]; exact (bl)⟩; clear BK386 HB hq_; have BK386 := n0_; have HB := n1_; clear n0_ n1_))) | ((with_reducible refine zf 36 rfl ?_); refine g1 (some 37) Tryz.func36 #[.string t388, .int .i64 12] ?_; (with_reducible refine (impl_number.calls k t388 12 t394 false _ A7.out).mono ?_); rintro e w' ⟨rfl, ⟨nd, rfl⟩⟩; refine ⟨_, rfl, ?_⟩; (try (rw [drewN_self w38]; generalize hq_ : World.drewN w38 _ = w38; have n0_ : Aside0 (w38.heap[gb386]? = some (.cells #[.int .i64 0, .int .i64 0, .int .i64 0] 35 (0, 0))) := ⟨by rw [← hq_]; exact (be BK386)⟩; have n1_ : Aside0 (Below w.heap.size w w38) := ⟨by rw [← hq_]; exact (bl)⟩; clear BK386 HB hq_; have BK386 := n0_; have HB := n1_; clear n0_ n1_))) | ((with_reducible refine zf 36 rfl ?_); refine g1 (some 42) Tryz.func36 #[.string t391, .int .i64 2] ?_; (with_reducible refine (impl_number.calls k t391 2 t396 t397 _ A8.out).mono ?_); rintro e w' ⟨rfl, ⟨nd, rfl⟩⟩; refine ⟨_, rfl, ?_⟩; (try (rw [drewN_self w38]; generalize hq_ : World.drewN w38 _ = w38; have n0_ : Aside0 (w38.heap[gb386]? = some (.cells #[.int .i64 0, .int .i64 0, .int .i64 0] 35 (0, 0))) := ⟨by rw [← hq_]; exact (be BK386)⟩; have n1_ : Aside0 (Below w.heap.size w w38) := ⟨by rw [← hq_]; exact (bl)⟩; clear BK386 HB hq_; have BK386 := n0_; have HB := n1_; clear n0_ n1_))) | ((with_reducible refine zf 36 rfl ?_); refine g1 (some 47) Tryz.func36 #[.string t392, .int .i64 2] ?_; (with_reducible refine (impl_number.calls k t392 2 t398 t399 _ A9.out).mono ?_); rintro e w' ⟨rfl, ⟨nd, rfl⟩⟩; refine ⟨_, rfl, ?_⟩; (try (rw [drewN_self w38]; generalize hq_ : World.drewN w38 _ = w38; have n0_ : Aside0 (w38.heap[gb386]? = some (.cells #[.int .i64 0, .int .i64 0, .int .i64 0] 35 (0, 0))) := ⟨by rw [← hq_]; exact (be BK386)⟩; have n1_ : Aside0 (Below w.heap.size w w38) := ⟨by rw [← hq_]; exact (bl)⟩; clear BK386 HB hq_; have BK386 := n0_; have HB := n1_; clear n0_ n1_))) | ((with_reducible refine zg 18 rfl ?_); refine z3 18 35 0 0 0 ?_; intro gb400 hg w39 BK400 hb; have GW400 := sg hg; have NB386_400 := nl hg BK386; replace BK386 := bb BK386 hb; replace HB := bs hb; clear hb hg; obtain ⟨hnb40, hnc40⟩ := zm NB386_400; obtain ⟨hcz41_0, hcz41_1, hcz41_2, hfz41_0, hfz41_1, hfz41_2⟩ := cq3 BK400; obtain ⟨hcz42_0, hcz42_1, hcz42_2, hfz42_0, hfz42_1, hfz42_2⟩ := cq3 BK386))
   refine bodyPost_ret (results_ct rfl _ _ gb386 35 #[.int .i64 0, .int .i64 0, .int .i64 0] (0, 0) _ rfl (bp) Tryz.underlying35 rfl (by kernel_rfl)) rfl ?_
   exact ⟨er, bl⟩
 ·replace c4 := Bool.eq_false_iff.mpr c4
  subst c4
  have H1 : (some (0, 0, 0, 1)) = some (r1, r2, r3, r4) := by rw [if_neg (show ¬ (false = true) by decide)] at H; exact H
  clear H
  have H := H1
  clear H1
  simp only [Option.some.injEq, Prod.mk.injEq] at H
  obtain ⟨rfl, rfl, rfl, rfl⟩ := H
  go_enter Tryz.func14, Tryz.ntmps14
  go_wp2_with (first | ((with_reducible refine zg 4 rfl ?_); refine z3 4 35 0 0 0 ?_; intro gb386 hg w43 BK386 hb; have GW386 := sg hg; replace HB := bs hb; clear hb hg) | ((with_reducible refine zf 43 rfl ?_); refine g1 (some 20) Tryz.func43 #[.int .i64 a0] ?_; (with_reducible refine (impl_isPrime.calls a0 false _ A3.out).mono ?_); rintro e w' ⟨rfl, ⟨nd, rfl⟩⟩; refine ⟨_, rfl, ?_⟩; (try (rw [drewN_self w43]; generalize hq_ : World.drewN w43 _ = w43; have n0_ : Aside0 (w43.heap[gb386]? = some (.cells #[.int .i64 0, .int .i64 0, .int .i64 0] 35 (0, 0))) := ⟨by rw [← hq_]; exact (be BK386)⟩; have n1_ : Aside0 (Below w.heap.size w w43) := ⟨by rw [← hq_]; exact (bl)⟩; clear BK386 HB hq_; have BK386 := n0_; have HB := n1_; clear n0_ n1_)); obtain ⟨hcz44_0, hcz44_1, hcz44_2, hfz44_0, hfz44_1, hfz44_2⟩ := cq3 BK386))
  refine bodyPost_ret (results_ct rfl _ _ gb386 35 #[.int .i64 0, .int .i64 0, .int .i64 0] (0, 0) _ rfl (bp) Tryz.underlying35 rfl (by kernel_rfl)) rfl ?_
  exact ⟨er, bl⟩

end Go.Proofs.YtgdkmchphpjifaaGreatDoor.PFnEnds

-- Printed by the kit's print and repaired by a program of this session.
import Derived.Test.YtpmepopagapeiaaPFnBallsx0
import Derived.Test.YtpmepopagapeiaaPFnBallsx5
namespace Go.Proofs.Ytpmepopagapeiaa.PFnBalls
open Go.RowKit Go.Proofs.YtpmepopagapeiaaW.PrintWords Go.Proofs.YtpmepopagapeiaaW.PrintLast Go.Proofs.YtpmepopagapeiaaW.PrintMore
attribute [local go_sem] max2_int min2_int max_two min_two max_three min_three max_four min_four
set_option linter.unusedVariables false
set_option linter.unusedSimpArgs false

/-! ### impl_gcd: function 148 -/
def impl_gcd.l0 : Nat → Int → Int → Option (Int)
 | 0, _, _ => none
 | k + 1, x0, x1 => if x1 = 0 then (some (mx x0 (wrap64 (-x0)))) else (impl_gcd.l0 k x1 (Int.tmod x0 x1))
def impl_gcd.f (k : Nat) (a0 : Int) (a1 : Int) : Option (Int) := impl_gcd.l0 k a0 a1
set_option maxHeartbeats 8000000 in
set_option maxRecDepth 100000 in
theorem impl_gcd.calls (k : Nat) (a0 : Int) (a1 : Int) (r : Int) (w : World) (h : impl_gcd.f k a0 a1 = some r) :
  Calls Try.prog 148 #[.int .i64 a0, .int .i64 a1] w fun e w' => e = .returned (.int .i64 r) ∧ Below w.heap.size w w' := by
 have HB := Aside0.mk (Below.refl w.heap.size w)
 unfold impl_gcd.f at h
 have H := h
 clear h
 have H' := Aside0.mk H
 clear H
 go_enter Try.func148, Try.ntmps148
 go_wp2
 repeat (go_quiet (fail); try go_wp2)
 go_loopg [0, 1] k (fun kq v0 v1 w' => ∃ (x0_1 : Int) (x1_1 : Int), v0 = .int .i64 x0_1 ∧ v1 = .int .i64 x1_1 ∧ Aside0 (impl_gcd.l0 kq x0_1 x1_1 = some r) ∧ Aside0 (kq ≤ k) ∧ Aside0 (Below w.heap.size w w'))
 case atStart => exact ⟨(a0), (a1), (by first | rfl | (simp; done) | (simp [*]; done)), (by first | rfl | (simp; done) | (simp [*]; done)), H', ⟨Nat.le_refl _⟩, ⟨bl⟩⟩
 case round =>
  clear H'
  obtain ⟨x0_1, x1_1, rfl, rfl, HA, HK1, HB⟩ := hrel
  cases gk with
  | zero => exact absurd HA.out (by simp [impl_gcd.l0])
  | succ k1 =>
   have H := HA.out
   clear HA
   simp only [impl_gcd.l0] at H
   replace H := ii H
   rcases H with ⟨c3, H⟩ | ⟨c3, H⟩
   ·obtain ⟨c3b0, c3b1⟩ := zz c3
    clear c3
    obtain ⟨ji4, hji4⟩ : ∃ j_ : Int, (mx x0_1 (wrap64 (-x0_1))) = j_ := ⟨_, rfl⟩
    replace H : (some ji4) = some r := by first | (rw [hji4] at H; exact H) | (simp only [hji4] at H ⊢; exact H)
    have hji4_ : (if x0_1 < (wrap64 (-x0_1)) then (wrap64 (-x0_1)) else x0_1) = ji4 := hji4
    obtain rfl := Option.some.inj H
    go_wp2
    repeat (go_quiet (fail); try go_wp2)
    go_ret
    exact ⟨by first | rfl | (simp [errW_none, errW_some] <;> rfl) | (simp only [← hji4]; first | rfl | (simp [errW_none, errW_some] <;> rfl)) | (simp [*, errW_none, errW_some] <;> rfl), bl⟩
   ·obtain ⟨c3b0, c3b1⟩ := zy c3
    have H' := Aside0.mk H
    clear H
    go_wp2
    repeat (go_quiet (fail); try go_wp2)
    go_roundg k1
    case measure => have := HK1.out; omega
    case rel => exact ⟨(x1_1), (Int.tmod x0_1 x1_1), (by first | rfl | (simp; done) | (simp [*]; done)), (by first | rfl | (simp; done) | (simp [*]; done)), H', ⟨by have := HK1.out; omega⟩, ⟨bl⟩⟩

/-! ### impl_IsEnd: function 122 -/
def impl_IsEnd.f (k : Nat) (a0_0 : Int) (a0_1 : Int) : Option (Bool) := if a0_1 = 0 then (some (a0_0 == 1)) else ((impl_within.f k 1000000 (([a0_0, a0_1] : List Int))).bind fun t412 => (if t412 = true then (if a0_1 > 0 then ((impl_gcd.f k a0_0 a0_1).bind fun t413 => (some (t413 == 1))) else (some false)) else (some false)))
set_option maxHeartbeats 8000000 in
set_option maxRecDepth 100000 in
theorem impl_IsEnd.calls (k : Nat) (a0_0 : Int) (a0_1 : Int) (r : Bool) (w : World) (h : impl_IsEnd.f k a0_0 a0_1 = some r) :
  Calls Try.prog 122 #[.agg #[.int .i64 a0_0, .int .i64 a0_1]] w fun e w' => e = .returned (.bool r) ∧ Below w.heap.size w w' := by
 have hu63 := Try.underlying63
 have HB := Aside0.mk (Below.refl w.heap.size w)
 unfold impl_IsEnd.f at h
 have H := h
 clear h
 replace H := ii H
 rcases H with ⟨c2, H⟩ | ⟨c2, H⟩
 ·obtain ⟨c2b0, c2b1⟩ := zz c2
  clear c2
  obtain rfl := Option.some.inj H
  go_enter Try.func122, Try.ntmps122
  go_wp2_with (first | ((with_reducible refine zg 1 rfl ?_); refine zb 1 63 #[.int .i64 a0_0, .int .i64 a0_1] ?_; intro gb408 hg w3 BK408 hb; have GW408 := sg hg; replace HB := bs hb; clear hb hg; obtain ⟨hcz4_0, hcz4_1, hfz4_0, hfz4_1⟩ := z2 BK408))
  go_ret
  exact ⟨er, bl⟩
 ·obtain ⟨c2b0, c2b1⟩ := zy c2
  obtain ⟨y409, hy409⟩ : ∃ y_ : List Int, y_ = (([a0_0, a0_1] : List Int)) := ⟨_, rfl⟩
  replace H : ((impl_within.f k 1000000 y409).bind fun t412 => (if t412 = true then (if a0_1 > 0 then ((impl_gcd.f k a0_0 a0_1).bind fun t413 => (some (t413 == 1))) else (some false)) else (some false))) = some r := by first | exact hy409 ▸ H | exact H
  have Ny409 := Aside0.mk hy409
  clear hy409
  replace H := zi H
  obtain ⟨t412, A5, H⟩ := H
  try dsimp only at H
  by_cases c6 : t412 = true
  ·subst c6
   rw [if_pos rfl] at H
   replace H := ii H
   rcases H with ⟨c7, H⟩ | ⟨c7, H⟩
   ·have c7b0 := decide_eq_true c7
    clear c7
    replace H := zi H
    obtain ⟨t413, A8, H⟩ := H
    try dsimp only at H
    obtain rfl := Option.some.inj H
    go_enter Try.func122, Try.ntmps122
    go_wp2_with (first | ((with_reducible refine zg 1 rfl ?_); refine zb 1 63 #[.int .i64 a0_0, .int .i64 a0_1] ?_; intro gb408 hg w9 BK408 hb; have GW408 := sg hg; replace HB := bs hb; clear hb hg; obtain ⟨hcz10_0, hcz10_1, hfz10_0, hfz10_1⟩ := z2 BK408) | ((with_reducible refine zg 13 rfl ?_); refine Kd.R_lit (Kd.int .i64) _ 2 ?hg (N := 13) ?hd (xs := ([a0_0, a0_1] : List Int)) (inner := [.int .i64 a0_0, .int .i64 a0_1]) (ok := fun _ => True) (okp := fun _ => True) ?hr ?hp (fun _ hk => hk) trivial (Below.refl _ _) (Nat.le_refl _) (by simp) ?_; (case hd => rfl); (case hg => rfl); (case hr => first | (go_simp; done) | (go_simp; rfl)); (case hp => exact (Reps.one (show Kd.M (Kd.int .i64) _ _ _ a0_0 [.int .i64 a0_0] from rfl) (Reps.one (show Kd.M (Kd.int .i64) _ _ _ a0_1 [.int .i64 a0_1] from rfl) (Reps.none _ _)))); intro v410 w11 ho12 hb hg_ hnew_; clear hg_ hnew_; (first | rw [← Ny409.out] at ho12 | (simp only [Int.reduceToNat] at ho12; rw [← Ny409.out] at ho12)); have HO411 := Aside0.mk (Kd.R_lower ho12 (below_size (bl))); replace BK408 := bb BK408 hb; replace HB := bs hb; clear hb ho12; obtain ⟨Ao13, co13, eo13⟩ := Kd.R_slice HO411.out; subst eo13) | ((with_reducible refine zf 127 rfl ?_); refine g1 (some 14) Try.func127 #[.int .i64 1000000, .slice Ao13 y409.length co13] ?_; (with_reducible refine (impl_within.calls k 1000000 _ _ y409 true _ ?side1 ?side2 A5.out).mono ?_); (case side1 => repeat (first | exact (Kd.R_reads' HO411.out).2.2 | (with_reducible refine Kd.C_alloc ?_ _) | (with_reducible refine Kd.C_drewN ?_ _) | (with_reducible refine Kd.C_drew ?_))); (case side2 => exact (Kd.R_reads' HO411.out).2.1); rintro e w' ⟨rfl, ⟨nd, rfl⟩⟩; refine ⟨_, rfl, ?_⟩; obtain ⟨hcz14_0, hcz14_1, hfz14_0, hfz14_1⟩ := z2 BK408) | (go_at_call 148; (with_reducible refine (impl_gcd.calls k a0_0 a0_1 t413 _ A8.out).mono ?_); rintro e w15 ⟨rfl, hb⟩; replace HO411 := Aside0.mk (Kd.R_below (by (with_reducible repeat (first | apply Kd.R_alloc | apply Kd.R_drewN | apply Kd.R_drew)); exact HO411.out) hb); replace BK408 := bb BK408 hb; replace HB := bs hb; (try clear hb)))
    go_ret
    exact ⟨er, bl⟩
   ·have c7b0 := decide_eq_false c7
    clear c7
    obtain rfl := Option.some.inj H
    go_enter Try.func122, Try.ntmps122
    go_wp2_with (first | ((with_reducible refine zg 1 rfl ?_); refine zb 1 63 #[.int .i64 a0_0, .int .i64 a0_1] ?_; intro gb408 hg w16 BK408 hb; have GW408 := sg hg; replace HB := bs hb; clear hb hg; obtain ⟨hcz17_0, hcz17_1, hfz17_0, hfz17_1⟩ := z2 BK408) | ((with_reducible refine zg 13 rfl ?_); refine Kd.R_lit (Kd.int .i64) _ 2 ?hg (N := 13) ?hd (xs := ([a0_0, a0_1] : List Int)) (inner := [.int .i64 a0_0, .int .i64 a0_1]) (ok := fun _ => True) (okp := fun _ => True) ?hr ?hp (fun _ hk => hk) trivial (Below.refl _ _) (Nat.le_refl _) (by simp) ?_; (case hd => rfl); (case hg => rfl); (case hr => first | (go_simp; done) | (go_simp; rfl)); (case hp => exact (Reps.one (show Kd.M (Kd.int .i64) _ _ _ a0_0 [.int .i64 a0_0] from rfl) (Reps.one (show Kd.M (Kd.int .i64) _ _ _ a0_1 [.int .i64 a0_1] from rfl) (Reps.none _ _)))); intro v410 w18 ho19 hb hg_ hnew_; clear hg_ hnew_; (first | rw [← Ny409.out] at ho19 | (simp only [Int.reduceToNat] at ho19; rw [← Ny409.out] at ho19)); have HO411 := Aside0.mk (Kd.R_lower ho19 (below_size (bl))); replace BK408 := bb BK408 hb; replace HB := bs hb; clear hb ho19; obtain ⟨Ao20, co20, eo20⟩ := Kd.R_slice HO411.out; subst eo20) | ((with_reducible refine zf 127 rfl ?_); refine g1 (some 14) Try.func127 #[.int .i64 1000000, .slice Ao20 y409.length co20] ?_; (with_reducible refine (impl_within.calls k 1000000 _ _ y409 true _ ?side1 ?side2 A5.out).mono ?_); (case side1 => repeat (first | exact (Kd.R_reads' HO411.out).2.2 | (with_reducible refine Kd.C_alloc ?_ _) | (with_reducible refine Kd.C_drewN ?_ _) | (with_reducible refine Kd.C_drew ?_))); (case side2 => exact (Kd.R_reads' HO411.out).2.1); rintro e w' ⟨rfl, ⟨nd, rfl⟩⟩; refine ⟨_, rfl, ?_⟩; obtain ⟨hcz21_0, hcz21_1, hfz21_0, hfz21_1⟩ := z2 BK408))
    go_ret
    exact ⟨er, bl⟩
  ·replace c6 := Bool.eq_false_iff.mpr c6
   subst c6
   have H1 : (some false) = some r := by rw [if_neg (show ¬ (false = true) by decide)] at H; exact H
   clear H
   have H := H1
   clear H1
   obtain rfl := Option.some.inj H
   go_enter Try.func122, Try.ntmps122
   go_wp2_with (first | ((with_reducible refine zg 1 rfl ?_); refine zb 1 63 #[.int .i64 a0_0, .int .i64 a0_1] ?_; intro gb408 hg w22 BK408 hb; have GW408 := sg hg; replace HB := bs hb; clear hb hg; obtain ⟨hcz23_0, hcz23_1, hfz23_0, hfz23_1⟩ := z2 BK408) | ((with_reducible refine zg 13 rfl ?_); refine Kd.R_lit (Kd.int .i64) _ 2 ?hg (N := 13) ?hd (xs := ([a0_0, a0_1] : List Int)) (inner := [.int .i64 a0_0, .int .i64 a0_1]) (ok := fun _ => True) (okp := fun _ => True) ?hr ?hp (fun _ hk => hk) trivial (Below.refl _ _) (Nat.le_refl _) (by simp) ?_; (case hd => rfl); (case hg => rfl); (case hr => first | (go_simp; done) | (go_simp; rfl)); (case hp => exact (Reps.one (show Kd.M (Kd.int .i64) _ _ _ a0_0 [.int .i64 a0_0] from rfl) (Reps.one (show Kd.M (Kd.int .i64) _ _ _ a0_1 [.int .i64 a0_1] from rfl) (Reps.none _ _)))); intro v410 w24 ho25 hb hg_ hnew_; clear hg_ hnew_; (first | rw [← Ny409.out] at ho25 | (simp only [Int.reduceToNat] at ho25; rw [← Ny409.out] at ho25)); have HO411 := Aside0.mk (Kd.R_lower ho25 (below_size (bl))); replace BK408 := bb BK408 hb; replace HB := bs hb; clear hb ho25; obtain ⟨Ao26, co26, eo26⟩ := Kd.R_slice HO411.out; subst eo26) | ((with_reducible refine zf 127 rfl ?_); refine g1 (some 14) Try.func127 #[.int .i64 1000000, .slice Ao26 y409.length co26] ?_; (with_reducible refine (impl_within.calls k 1000000 _ _ y409 false _ ?side1 ?side2 A5.out).mono ?_); (case side1 => repeat (first | exact (Kd.R_reads' HO411.out).2.2 | (with_reducible refine Kd.C_alloc ?_ _) | (with_reducible refine Kd.C_drewN ?_ _) | (with_reducible refine Kd.C_drew ?_))); (case side2 => exact (Kd.R_reads' HO411.out).2.1); rintro e w' ⟨rfl, ⟨nd, rfl⟩⟩; refine ⟨_, rfl, ?_⟩))
   go_ret
   exact ⟨er, bl⟩

/-! ### impl_endAt: function 132 -/
def impl_endAt.f (k : Nat) (a0 : Int) (a1 : Int) : Option (Int × Int × Bool) := if a1 = 0 then (some (1, 0, true)) else ((impl_gcd.f k a0 a1).bind fun t415 => (if a1 < 0 then (if (wrap64 (-t415)) = 0 then (none) else ((impl_IsEnd.f k (wrap64 (Int.tdiv a0 (wrap64 (-t415)))) (wrap64 (Int.tdiv a1 (wrap64 (-t415))))).bind fun t417 => (some (wrap64 (Int.tdiv a0 (wrap64 (-t415))), wrap64 (Int.tdiv a1 (wrap64 (-t415))), t417)))) else (if t415 = 0 then (none) else ((impl_IsEnd.f k (wrap64 (Int.tdiv a0 t415)) (wrap64 (Int.tdiv a1 t415))).bind fun t419 => (some (wrap64 (Int.tdiv a0 t415), wrap64 (Int.tdiv a1 t415), t419))))))
def impl_endAt.T6 : Bool × List (List Nat × List Nat) := (true, [([], []), ([], []), ([0, 1], [0, 1]), ([], []), ([], []), ([3, 4], [3, 4]), ([2, 5], [2, 5]), ([], []), ([7, 6, 0, 1, 2, 3, 4, 5, 6, 7], [6, 7])])
def impl_endAt.B6 : List Nat := [0, 0, 3, 0, 0, 24, 63, 0, 255]
theorem impl_endAt.tab6 : rtab .any (opsOf Try.f132 6) = impl_endAt.T6 := by kernel_rfl
theorem impl_endAt.bits6 : waitsOk impl_endAt.T6.2 impl_endAt.B6 = true := by kernel_rfl
set_option maxHeartbeats 8000000 in
set_option maxRecDepth 100000 in
theorem impl_endAt.calls (k : Nat) (a0 : Int) (a1 : Int) (r1 : Int) (r2 : Int) (r3 : Bool) (w : World) (h : impl_endAt.f k a0 a1 = some (r1, r2, r3)) :
  Calls Try.prog 132 #[.int .i64 a0, .int .i64 a1] w fun e w' => e = .returned (.tuple #[.agg #[.int .i64 r1, .int .i64 r2], .bool r3]) ∧ Below w.heap.size w w' := by
 have hu63 := Try.underlying63
 have HB := Aside0.mk (Below.refl w.heap.size w)
 unfold impl_endAt.f at h
 have H := h
 clear h
 replace H := ii H
 rcases H with ⟨c3, H⟩ | ⟨c3, H⟩
 ·obtain ⟨c3b0, c3b1⟩ := zz c3
  clear c3
  simp only [Option.some.injEq, Prod.mk.injEq] at H
  obtain ⟨rfl, rfl, rfl⟩ := H
  go_enter Try.func132, Try.ntmps132
  go_wp2_with (first | ((with_reducible refine zg 4 rfl ?_); refine zb 4 63 #[.int .i64 0, .int .i64 0] ?_; intro gb414 hg w4 BK414 hb; have GW414 := sg hg; replace HB := bs hb; clear hb hg; obtain ⟨hcz5_0, hcz5_1, hfz5_0, hfz5_1⟩ := z2 BK414))
  refine bodyPost_ret (results_ct rfl _ _ gb414 63 #[.int .i64 1, .int .i64 0] (0, 0) _ rfl (bp) Try.underlying63 rfl (by kernel_rfl)) rfl ?_
  exact ⟨er, bl⟩
 ·obtain ⟨c3b0, c3b1⟩ := zy c3
  replace H := zi H
  obtain ⟨t415, A6, H⟩ := H
  try dsimp only at H
  replace H := ii H
  rcases H with ⟨c7, H⟩ | ⟨c7, H⟩
  ·have c7b0 := decide_eq_true c7
   clear c7
   replace H := ii H
   rcases H with ⟨c8, H⟩ | ⟨c8, H⟩
   ·exact absurd H (by simp)
   ·obtain ⟨c8b0, c8b1⟩ := zy c8
    replace H := zi H
    obtain ⟨t417, A9, H⟩ := H
    try dsimp only at H
    simp only [Option.some.injEq, Prod.mk.injEq] at H
    obtain ⟨rfl, rfl, rfl⟩ := H
    go_enter Try.func132, Try.ntmps132
    try go_wp2_with (first | ((with_reducible refine zg 4 rfl ?_); refine zb 4 63 #[.int .i64 0, .int .i64 0] ?_; intro gb414 hg w10 BK414 hb; have GW414 := sg hg; replace HB := bs hb; clear hb hg) | ((with_reducible refine zf 148 rfl ?_); refine g1 (some 13) Try.func148 #[.int .i64 a0, .int .i64 a1] ?_; (with_reducible refine (impl_gcd.calls k a0 a1 t415 _ A6.out).mono ?_); rintro e w11 ⟨rfl, hb⟩; refine ⟨_, rfl, ?_⟩; replace BK414 := bb BK414 hb; replace HB := bs hb; (try clear hb)))
    replace BK414 := Aside0.mk (blk_drew BK414.out)
    replace HB := Aside0.mk (below_drew1 HB.out)
    refine sw 9 (fun w' => True) impl_endAt.tab6 impl_endAt.bits6 trivial (fun hHeld HT_ HW_ => ?_)
    generalize w11.drew = w12 at BK414 HB hHeld ⊢
    refine pu 0 (some 18) (tA 9 1) HT_ ?_
    refine pu 1 (some 19) (tA 9 3) HT_ ?_
    refine pu 2 (some 20) (tA 9 7) HT_ ?_
    refine pu 3 (some 21) (tA 9 15) HT_ ?_
    refine pu 4 (some 22) (tA 9 31) HT_ ?_
    refine pu 5 (some 23) (tA 9 63) HT_ ?_
    refine pu 6 (some 24) (tA 9 127) HT_ ?_
    refine o1 7 (some 7) (tA 9 255) HT_ (fun K hK => ?_)
    refine box_step ?hg (N := 7) ?hd (cs := #[.int .i64 0, .int .i64 0]) (t := 63) ?hr ?_; (case hd => rfl); (case hg => rfl); (case hr => first | (go_simp; done) | (go_simp; rfl))
    intro gb416 hg w13 hbox hb
    have BK416 := Aside0.mk (hbox)
    have GW416 := Aside0.mk ((by rw [hg]; exact (below_size (bl)) : w.heap.size ≤ gb416))
    have GE416 := Aside0.mk ((by rw [hg]; exact (below_size (bl)) : w.heap.size ≤ gb416))
    have NB414_416 := nl hg BK414
    have NB416_414 := ng hg BK414
    replace BK414 := bb BK414 hb
    replace HB := bs hb
    clear hb hg
    refine hK.out _ _ trivial (fun hHeld => ?_)
    clear hK K
    refine nm (some 7) ?_
    refine o1 8 none (tA 9 511) HT_ (fun K hK => ?_)
    have hs14 : w13.cell? ⟨gb416, 0, none⟩ = some (.int .i64 0) := (blk_cell BK416.out 0).trans rfl
    have hfs14 := blk_frozen BK416.out 0
    have hns14_0 := NB414_416.out
    have hms14_0 := NB416_414.out
    have hs15 : w13.cell? ⟨gb416, 1, none⟩ = some (.int .i64 0) := (blk_cell BK416.out 1).trans rfl
    have hfs15 := blk_frozen BK416.out 1
    have hns15_0 := NB414_416.out
    have hms15_0 := NB416_414.out
    refine skip_ (w1 := ?_) (by rfl) rfl ?_ ?_
    rotate_left
    ·go_simp
     rfl
    refine hK.out _ _ trivial (fun hHeld => ?_)
    clear hK K
    refine done_ (done_of HT_.out (by kernel_rfl)) ?_
    try go_wp2
    have n0_ : Aside0 (((w13.setCell ⟨gb416, 0, none⟩ (.int .i64 (wrap64 (Int.tdiv a0 (wrap64 (-t415)))))).setCell ⟨gb416, 1, none⟩ (.int .i64 (wrap64 (Int.tdiv a1 (wrap64 (-t415)))))).heap[gb414]? = some (.cells #[.int .i64 0, .int .i64 0] 63 (0, 0))) := ⟨bp⟩
    have n1_ : Aside0 (((w13.setCell ⟨gb416, 0, none⟩ (.int .i64 (wrap64 (Int.tdiv a0 (wrap64 (-t415)))))).setCell ⟨gb416, 1, none⟩ (.int .i64 (wrap64 (Int.tdiv a1 (wrap64 (-t415)))))).heap[gb416]? = some (.cells #[.int .i64 (wrap64 (Int.tdiv a0 (wrap64 (-t415)))), .int .i64 (wrap64 (Int.tdiv a1 (wrap64 (-t415))))] 63 (0, 0))) := ⟨bp⟩
    have n2_ : Aside0 (Below w.heap.size w ((w13.setCell ⟨gb416, 0, none⟩ (.int .i64 (wrap64 (Int.tdiv a0 (wrap64 (-t415)))))).setCell ⟨gb416, 1, none⟩ (.int .i64 (wrap64 (Int.tdiv a1 (wrap64 (-t415))))))) := ⟨bl⟩
    (try clear BK414)
    (try clear BK416)
    (try clear HB)
    generalize ((w13.setCell ⟨gb416, 0, none⟩ (.int .i64 (wrap64 (Int.tdiv a0 (wrap64 (-t415)))))).setCell ⟨gb416, 1, none⟩ (.int .i64 (wrap64 (Int.tdiv a1 (wrap64 (-t415)))))) = w16 at n0_ n1_ n2_ ⊢
    have BK414 := n0_
    have BK416 := n1_
    have HB := n2_
    clear n0_ n1_ n2_
    replace BK414 := Aside0.mk (blk_drew BK414.out)
    replace BK416 := Aside0.mk (blk_drew BK416.out)
    replace HB := Aside0.mk (below_drew1 HB.out)
    refine start_ (n := 5) (S := fun w' => w'.cell? ⟨gb416, 0, none⟩ = some (.int .i64 (wrap64 (Int.tdiv a0 (wrap64 (-t415))))) ∧ w'.cell? ⟨gb416, 1, none⟩ = some (.int .i64 (wrap64 (Int.tdiv a1 (wrap64 (-t415)))))) (ds := []) #[false, false, false, false, false] (by kernel_rfl) rfl rfl ⟨(blk_cell BK416.out 0).trans rfl, (blk_cell BK416.out 1).trans rfl⟩ (fun hHeld => ?_)
    generalize w16.drew = w17 at BK414 BK416 HB hHeld ⊢
    refine tr2 0 (some 25) (tA 5 1) hHeld ?_
    refine tr2 1 (some 26) (tA 5 3) hHeld ?_
    refine one_ (i := 2) (N := some 27) #[true, true, true, false, false] rfl rfl (by kernel_rfl) (by decide) (fun K hK => ?_)
    refine gs Try.func122 #[.agg #[.int .i64 (wrap64 (Int.tdiv a0 (wrap64 (-t415)))), .int .i64 (wrap64 (Int.tdiv a1 (wrap64 (-t415))))]] ?_
    with_reducible refine (impl_IsEnd.calls k (wrap64 (Int.tdiv a0 (wrap64 (-t415)))) (wrap64 (Int.tdiv a1 (wrap64 (-t415)))) t417 _ A9.out).mono ?_
    rintro e w18 ⟨rfl, hb⟩
    refine ⟨_, rfl, ?_⟩
    replace BK414 := bb BK414 hb
    replace BK416 := bb BK416 hb
    replace HB := bs hb
    (try clear hb)
    (try clear hb2)
    (try clear hk)
    (try clear hi)
    refine hK.out _ _ ⟨(blk_cell BK416.out 0).trans rfl, (blk_cell BK416.out 1).trans rfl⟩ (fun hHeld => ?_)
    clear hK K
    refine nm (some 27) ?_
    refine one_ (i := 3) (N := none) #[true, true, true, true, false] rfl rfl (by kernel_rfl) (by decide) (fun K hK => ?_)
    have hs19 : w18.cell? ⟨gb414, 0, none⟩ = some (.int .i64 0) := (blk_cell BK414.out 0).trans rfl
    have hfs19 := blk_frozen BK414.out 0
    have hns19_1 := NB416_414.out
    have hms19_1 := NB414_416.out
    have hs20 : w18.cell? ⟨gb414, 1, none⟩ = some (.int .i64 0) := (blk_cell BK414.out 1).trans rfl
    have hfs20 := blk_frozen BK414.out 1
    have hns20_1 := NB416_414.out
    have hms20_1 := NB414_416.out
    refine skip_ (w1 := ?_) (by rfl) rfl ?_ ?_
    rotate_left
    ·go_simp
     rfl
    refine hK.out _ _ ⟨(cf gb414 NB416_414 ((cf gb414 NB416_414 (hHeld.1)))), (cf gb414 NB416_414 ((cf gb414 NB416_414 (hHeld.2))))⟩ (fun hHeld => ?_)
    clear hK K
    refine pr 4 (some 5) (tA 5 31) ?_
    refine done_ (by kernel_rfl) ?_
    try go_wp2
    refine bodyPost_ret (results_ct rfl _ _ gb414 63 #[.int .i64 (wrap64 (Int.tdiv a0 (wrap64 (-t415)))), .int .i64 (wrap64 (Int.tdiv a1 (wrap64 (-t415))))] (0, 0) _ rfl (bp) Try.underlying63 rfl (by kernel_rfl)) rfl ?_
    exact ⟨er, bl⟩
  ·have c7b0 := decide_eq_false c7
   clear c7
   replace H := ii H
   rcases H with ⟨c21, H⟩ | ⟨c21, H⟩
   ·exact absurd H (by simp)
   ·obtain ⟨c21b0, c21b1⟩ := zy c21
    replace H := zi H
    obtain ⟨t419, A22, H⟩ := H
    try dsimp only at H
    simp only [Option.some.injEq, Prod.mk.injEq] at H
    obtain ⟨rfl, rfl, rfl⟩ := H
    go_enter Try.func132, Try.ntmps132
    try go_wp2_with (first | ((with_reducible refine zg 4 rfl ?_); refine zb 4 63 #[.int .i64 0, .int .i64 0] ?_; intro gb414 hg w23 BK414 hb; have GW414 := sg hg; replace HB := bs hb; clear hb hg) | ((with_reducible refine zf 148 rfl ?_); refine g1 (some 13) Try.func148 #[.int .i64 a0, .int .i64 a1] ?_; (with_reducible refine (impl_gcd.calls k a0 a1 t415 _ A6.out).mono ?_); rintro e w24 ⟨rfl, hb⟩; refine ⟨_, rfl, ?_⟩; replace BK414 := bb BK414 hb; replace HB := bs hb; (try clear hb)))
    replace BK414 := Aside0.mk (blk_drew BK414.out)
    replace HB := Aside0.mk (below_drew1 HB.out)
    refine sw 9 (fun w' => True) impl_endAt.tab6 impl_endAt.bits6 trivial (fun hHeld HT_ HW_ => ?_)
    generalize w24.drew = w25 at BK414 HB hHeld ⊢
    refine pu 0 (some 18) (tA 9 1) HT_ ?_
    refine pu 1 (some 19) (tA 9 3) HT_ ?_
    refine pu 2 (some 20) (tA 9 7) HT_ ?_
    refine pu 3 (some 21) (tA 9 15) HT_ ?_
    refine pu 4 (some 22) (tA 9 31) HT_ ?_
    refine pu 5 (some 23) (tA 9 63) HT_ ?_
    refine pu 6 (some 24) (tA 9 127) HT_ ?_
    refine o1 7 (some 7) (tA 9 255) HT_ (fun K hK => ?_)
    refine box_step ?hg (N := 7) ?hd (cs := #[.int .i64 0, .int .i64 0]) (t := 63) ?hr ?_; (case hd => rfl); (case hg => rfl); (case hr => first | (go_simp; done) | (go_simp; rfl))
    intro gb418 hg w26 hbox hb
    have BK418 := Aside0.mk (hbox)
    have GW418 := Aside0.mk ((by rw [hg]; exact (below_size (bl)) : w.heap.size ≤ gb418))
    have GE418 := Aside0.mk ((by rw [hg]; exact (below_size (bl)) : w.heap.size ≤ gb418))
    have NB414_418 := nl hg BK414
    have NB418_414 := ng hg BK414
    replace BK414 := bb BK414 hb
    replace HB := bs hb
    clear hb hg
    refine hK.out _ _ trivial (fun hHeld => ?_)
    clear hK K
    refine nm (some 7) ?_
    refine o1 8 none (tA 9 511) HT_ (fun K hK => ?_)
    have hs27 : w26.cell? ⟨gb418, 0, none⟩ = some (.int .i64 0) := (blk_cell BK418.out 0).trans rfl
    have hfs27 := blk_frozen BK418.out 0
    have hns27_0 := NB414_418.out
    have hms27_0 := NB418_414.out
    have hs28 : w26.cell? ⟨gb418, 1, none⟩ = some (.int .i64 0) := (blk_cell BK418.out 1).trans rfl
    have hfs28 := blk_frozen BK418.out 1
    have hns28_0 := NB414_418.out
    have hms28_0 := NB418_414.out
    refine skip_ (w1 := ?_) (by rfl) rfl ?_ ?_
    rotate_left
    ·go_simp
     rfl
    refine hK.out _ _ trivial (fun hHeld => ?_)
    clear hK K
    refine done_ (done_of HT_.out (by kernel_rfl)) ?_
    try go_wp2
    have n0_ : Aside0 (((w26.setCell ⟨gb418, 0, none⟩ (.int .i64 (wrap64 (Int.tdiv a0 t415)))).setCell ⟨gb418, 1, none⟩ (.int .i64 (wrap64 (Int.tdiv a1 t415)))).heap[gb414]? = some (.cells #[.int .i64 0, .int .i64 0] 63 (0, 0))) := ⟨bp⟩
    have n1_ : Aside0 (((w26.setCell ⟨gb418, 0, none⟩ (.int .i64 (wrap64 (Int.tdiv a0 t415)))).setCell ⟨gb418, 1, none⟩ (.int .i64 (wrap64 (Int.tdiv a1 t415)))).heap[gb418]? = some (.cells #[.int .i64 (wrap64 (Int.tdiv a0 t415)), .int .i64 (wrap64 (Int.tdiv a1 t415))] 63 (0, 0))) := ⟨bp⟩
    have n2_ : Aside0 (Below w.heap.size w ((w26.setCell ⟨gb418, 0, none⟩ (.int .i64 (wrap64 (Int.tdiv a0 t415)))).setCell ⟨gb418, 1, none⟩ (.int .i64 (wrap64 (Int.tdiv a1 t415))))) := ⟨bl⟩
    (try clear BK414)
    (try clear BK418)
    (try clear HB)
    generalize ((w26.setCell ⟨gb418, 0, none⟩ (.int .i64 (wrap64 (Int.tdiv a0 t415)))).setCell ⟨gb418, 1, none⟩ (.int .i64 (wrap64 (Int.tdiv a1 t415)))) = w29 at n0_ n1_ n2_ ⊢
    have BK414 := n0_
    have BK418 := n1_
    have HB := n2_
    clear n0_ n1_ n2_
    replace BK414 := Aside0.mk (blk_drew BK414.out)
    replace BK418 := Aside0.mk (blk_drew BK418.out)
    replace HB := Aside0.mk (below_drew1 HB.out)
    refine start_ (n := 5) (S := fun w' => w'.cell? ⟨gb418, 0, none⟩ = some (.int .i64 (wrap64 (Int.tdiv a0 t415))) ∧ w'.cell? ⟨gb418, 1, none⟩ = some (.int .i64 (wrap64 (Int.tdiv a1 t415)))) (ds := []) #[false, false, false, false, false] (by kernel_rfl) rfl rfl ⟨(blk_cell BK418.out 0).trans rfl, (blk_cell BK418.out 1).trans rfl⟩ (fun hHeld => ?_)
    generalize w29.drew = w30 at BK414 BK418 HB hHeld ⊢
    refine tr2 0 (some 25) (tA 5 1) hHeld ?_
    refine tr2 1 (some 26) (tA 5 3) hHeld ?_
    refine one_ (i := 2) (N := some 27) #[true, true, true, false, false] rfl rfl (by kernel_rfl) (by decide) (fun K hK => ?_)
    refine gs Try.func122 #[.agg #[.int .i64 (wrap64 (Int.tdiv a0 t415)), .int .i64 (wrap64 (Int.tdiv a1 t415))]] ?_
    with_reducible refine (impl_IsEnd.calls k (wrap64 (Int.tdiv a0 t415)) (wrap64 (Int.tdiv a1 t415)) t419 _ A22.out).mono ?_
    rintro e w31 ⟨rfl, hb⟩
    refine ⟨_, rfl, ?_⟩
    replace BK414 := bb BK414 hb
    replace BK418 := bb BK418 hb
    replace HB := bs hb
    (try clear hb)
    (try clear hb2)
    (try clear hk)
    (try clear hi)
    refine hK.out _ _ ⟨(blk_cell BK418.out 0).trans rfl, (blk_cell BK418.out 1).trans rfl⟩ (fun hHeld => ?_)
    clear hK K
    refine nm (some 27) ?_
    refine one_ (i := 3) (N := none) #[true, true, true, true, false] rfl rfl (by kernel_rfl) (by decide) (fun K hK => ?_)
    have hs32 : w31.cell? ⟨gb414, 0, none⟩ = some (.int .i64 0) := (blk_cell BK414.out 0).trans rfl
    have hfs32 := blk_frozen BK414.out 0
    have hns32_1 := NB418_414.out
    have hms32_1 := NB414_418.out
    have hs33 : w31.cell? ⟨gb414, 1, none⟩ = some (.int .i64 0) := (blk_cell BK414.out 1).trans rfl
    have hfs33 := blk_frozen BK414.out 1
    have hns33_1 := NB418_414.out
    have hms33_1 := NB414_418.out
    refine skip_ (w1 := ?_) (by rfl) rfl ?_ ?_
    rotate_left
    ·go_simp
     rfl
    refine hK.out _ _ ⟨(cf gb414 NB418_414 ((cf gb414 NB418_414 (hHeld.1)))), (cf gb414 NB418_414 ((cf gb414 NB418_414 (hHeld.2))))⟩ (fun hHeld => ?_)
    clear hK K
    refine pr 4 (some 5) (tA 5 31) ?_
    refine done_ (by kernel_rfl) ?_
    try go_wp2
    refine bodyPost_ret (results_ct rfl _ _ gb414 63 #[.int .i64 (wrap64 (Int.tdiv a0 t415)), .int .i64 (wrap64 (Int.tdiv a1 t415))] (0, 0) _ rfl (bp) Try.underlying63 rfl (by kernel_rfl)) rfl ?_
    exact ⟨er, bl⟩

end Go.Proofs.Ytpmepopagapeiaa.PFnBalls

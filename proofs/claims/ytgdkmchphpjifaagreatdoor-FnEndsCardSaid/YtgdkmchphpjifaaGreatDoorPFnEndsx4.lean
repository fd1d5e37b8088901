-- Printed by the kit's print and repaired by a program of this session.
import Derived.Test.YtgdkmchphpjifaaGreatDoorPFnEndsx0
import Derived.Test.YtgdkmchphpjifaaGreatDoorPFnEndsx3
namespace Go.Proofs.YtgdkmchphpjifaaGreatDoor.PFnEnds
open Go.RowKit Go.Proofs.YtgdkmchphpjifaaGreatDoorW.PrintWords Go.Proofs.YtgdkmchphpjifaaGreatDoorW.PrintLast Go.Proofs.YtgdkmchphpjifaaGreatDoorW.PrintMore
attribute [local go_sem] max2_int min2_int max_two min_two max_three min_three max_four min_four
set_option linter.unusedVariables false
set_option linter.unusedSimpArgs false

/-! ### impl_gcd: function 37 -/
def impl_gcd.l0 : Nat → Int → Int → Option (Int)
 | 0, _, _ => none
 | k + 1, x0, x1 => if x1 = 0 then (some (mx x0 (wrap64 (-x0)))) else (impl_gcd.l0 k x1 (Int.tmod x0 x1))
def impl_gcd.f (k : Nat) (a0 : Int) (a1 : Int) : Option (Int) := impl_gcd.l0 k a0 a1
set_option maxHeartbeats 8000000 in
set_option maxRecDepth 100000 in
theorem impl_gcd.calls (k : Nat) (a0 : Int) (a1 : Int) (r : Int) (w : World) (h : impl_gcd.f k a0 a1 = some r) :
  Calls Tryz.prog 37 #[.int .i64 a0, .int .i64 a1] w fun e w' => e = .returned (.int .i64 r) ∧ Below w.heap.size w w' := by
 have HB := Aside0.mk (Below.refl w.heap.size w)
 unfold impl_gcd.f at h
 have H := h
 clear h
 have H' := Aside0.mk H
 clear H
 go_enter Tryz.func37, Tryz.ntmps37
 go_wp2
 repeat (go_quiet (fail); try go_wp2)
 go_loopg [0, 1] k (fun kq v0 v1 w' => ∃ (x0_1 : Int) (x1_1 : Int), v0 = .int .i64 x0_1 ∧ v1 = .int .i64 x1_1 ∧ Aside0 (impl_gcd.l0 kq x0_1 x1_1 = some r) ∧ Aside0 (kq ≤ k) ∧ Aside0 (Below w.heap.size w w'))
 case atStart => exact ⟨(a0), (a1), (by first | rfl | (simp; done) | (simp [*]; done)), (by first | rfl | (simp; done) | (simp [*]; done)), H', ⟨Nat.le_refl _⟩, ⟨bl⟩⟩
 case round =>
  clear H'
  obtain ⟨x0_1, x1_1, rfl, rfl, HA, HK1, HB⟩ := hrel
  cases gk with
  | zero => exact absurd HA.out (by simp [impl_gcd.l0])
  | succ k1 =>
   have H := HA.out
   clear HA
   simp only [impl_gcd.l0] at H
   replace H := ii H
   rcases H with ⟨c3, H⟩ | ⟨c3, H⟩
   ·obtain ⟨c3b0, c3b1⟩ := zz c3
    clear c3
    obtain ⟨ji4, hji4⟩ : ∃ j_ : Int, (mx x0_1 (wrap64 (-x0_1))) = j_ := ⟨_, rfl⟩
    replace H : (some ji4) = some r := by first | (rw [hji4] at H; exact H) | (simp only [hji4] at H ⊢; exact H)
    have hji4_ : (if x0_1 < (wrap64 (-x0_1)) then (wrap64 (-x0_1)) else x0_1) = ji4 := hji4
    obtain rfl := Option.some.inj H
    go_wp2
    repeat (go_quiet (fail); try go_wp2)
    go_ret
    exact ⟨by first | rfl | (simp [errW_none, errW_some] <;> rfl) | (simp only [← hji4]; first | rfl | (simp [errW_none, errW_some] <;> rfl)) | (simp [*, errW_none, errW_some] <;> rfl), bl⟩
   ·obtain ⟨c3b0, c3b1⟩ := zy c3
    have H' := Aside0.mk H
    clear H
    go_wp2
    repeat (go_quiet (fail); try go_wp2)
    go_roundg k1
    case measure => have := HK1.out; omega
    case rel => exact ⟨(x1_1), (Int.tmod x0_1 x1_1), (by first | rfl | (simp; done) | (simp [*]; done)), (by first | rfl | (simp; done) | (simp [*]; done)), H', ⟨by have := HK1.out; omega⟩, ⟨bl⟩⟩

/-! ### impl_IsEnd: function 10 -/
def impl_IsEnd.f (k : Nat) (a0_0 : Int) (a0_1 : Int) : Option (Bool) := if a0_1 = 0 then (some (a0_0 == 1)) else ((impl_within.f k 1000000 (([a0_0, a0_1] : List Int))).bind fun t173 => (if t173 = true then (if a0_1 > 0 then ((impl_gcd.f k a0_0 a0_1).bind fun t174 => (some (t174 == 1))) else (some false)) else (some false)))
set_option maxHeartbeats 8000000 in
set_option maxRecDepth 100000 in
theorem impl_IsEnd.calls (k : Nat) (a0_0 : Int) (a0_1 : Int) (r : Bool) (w : World) (h : impl_IsEnd.f k a0_0 a0_1 = some r) :
  Calls Tryz.prog 10 #[.agg #[.int .i64 a0_0, .int .i64 a0_1]] w fun e w' => e = .returned (.bool r) ∧ Below w.heap.size w w' := by
 have hu27 := Tryz.underlying27
 have HB := Aside0.mk (Below.refl w.heap.size w)
 unfold impl_IsEnd.f at h
 have H := h
 clear h
 replace H := ii H
 rcases H with ⟨c2, H⟩ | ⟨c2, H⟩
 ·obtain ⟨c2b0, c2b1⟩ := zz c2
  clear c2
  obtain rfl := Option.some.inj H
  go_enter Tryz.func10, Tryz.ntmps10
  go_wp2_with (first | ((with_reducible refine zg 1 rfl ?_); refine zb 1 27 #[.int .i64 a0_0, .int .i64 a0_1] ?_; intro gb169 hg w3 BK169 hb; have GW169 := sg hg; replace HB := bs hb; clear hb hg; obtain ⟨hcz4_0, hcz4_1, hfz4_0, hfz4_1⟩ := z2 BK169))
  go_ret
  exact ⟨er, bl⟩
 ·obtain ⟨c2b0, c2b1⟩ := zy c2
  obtain ⟨y170, hy170⟩ : ∃ y_ : List Int, y_ = (([a0_0, a0_1] : List Int)) := ⟨_, rfl⟩
  replace H : ((impl_within.f k 1000000 y170).bind fun t173 => (if t173 = true then (if a0_1 > 0 then ((impl_gcd.f k a0_0 a0_1).bind fun t174 => (some (t174 == 1))) else (some false)) else (some false))) = some r := by first | exact hy170 ▸ H | exact H
  have Ny170 := Aside0.mk hy170
  clear hy170
  replace H := zi H
  obtain ⟨t173, A5, H⟩ := H
  try dsimp only at H
  by_cases c6 : t173 = true
  ·subst c6
   rw [if_pos rfl] at H
   replace H := ii H
   rcases H with ⟨c7, H⟩ | ⟨c7, H⟩
   ·have c7b0 := decide_eq_true c7
    clear c7
    replace H := zi H
    obtain ⟨t174, A8, H⟩ := H
    try dsimp only at H
    obtain rfl := Option.some.inj H
    go_enter Tryz.func10, Tryz.ntmps10
    go_wp2_with (first | ((with_reducible refine zg 1 rfl ?_); refine zb 1 27 #[.int .i64 a0_0, .int .i64 a0_1] ?_; intro gb169 hg w9 BK169 hb; have GW169 := sg hg; replace HB := bs hb; clear hb hg; obtain ⟨hcz10_0, hcz10_1, hfz10_0, hfz10_1⟩ := z2 BK169) | ((with_reducible refine zg 13 rfl ?_); refine Kd.R_lit (Kd.int .i64) _ 2 ?hg (N := 13) ?hd (xs := ([a0_0, a0_1] : List Int)) (inner := [.int .i64 a0_0, .int .i64 a0_1]) (ok := fun _ => True) (okp := fun _ => True) ?hr ?hp (fun _ hk => hk) trivial (Below.refl _ _) (Nat.le_refl _) (by simp) ?_; (case hd => rfl); (case hg => rfl); (case hr => first | (go_simp; done) | (go_simp; rfl)); (case hp => exact (Reps.one (show Kd.M (Kd.int .i64) _ _ _ a0_0 [.int .i64 a0_0] from rfl) (Reps.one (show Kd.M (Kd.int .i64) _ _ _ a0_1 [.int .i64 a0_1] from rfl) (Reps.none _ _)))); intro v171 w11 ho12 hb hg_ hnew_; clear hg_ hnew_; (first | rw [← Ny170.out] at ho12 | (simp only [Int.reduceToNat] at ho12; rw [← Ny170.out] at ho12)); have HO172 := Aside0.mk (Kd.R_lower ho12 (below_size (bl))); replace BK169 := bb BK169 hb; replace HB := bs hb; clear hb ho12; obtain ⟨Ao13, co13, eo13⟩ := Kd.R_slice HO172.out; subst eo13) | ((with_reducible refine zf 29 rfl ?_); refine g1 (some 14) Tryz.func29 #[.int .i64 1000000, .slice Ao13 y170.length co13] ?_; (with_reducible refine (impl_within.calls k 1000000 _ _ y170 true _ ?side1 ?side2 A5.out).mono ?_); (case side1 => repeat (first | exact (Kd.R_reads' HO172.out).2.2 | (with_reducible refine Kd.C_alloc ?_ _) | (with_reducible refine Kd.C_drewN ?_ _) | (with_reducible refine Kd.C_drew ?_))); (case side2 => exact (Kd.R_reads' HO172.out).2.1); rintro e w' ⟨rfl, ⟨nd, rfl⟩⟩; refine ⟨_, rfl, ?_⟩; obtain ⟨hcz14_0, hcz14_1, hfz14_0, hfz14_1⟩ := z2 BK169) | (go_at_call 37; (with_reducible refine (impl_gcd.calls k a0_0 a0_1 t174 _ A8.out).mono ?_); rintro e w15 ⟨rfl, hb⟩; replace HO172 := Aside0.mk (Kd.R_below (by (with_reducible repeat (first | apply Kd.R_alloc | apply Kd.R_drewN | apply Kd.R_drew)); exact HO172.out) hb); replace BK169 := bb BK169 hb; replace HB := bs hb; (try clear hb)))
    go_ret
    exact ⟨er, bl⟩
   ·have c7b0 := decide_eq_false c7
    clear c7
    obtain rfl := Option.some.inj H
    go_enter Tryz.func10, Tryz.ntmps10
    go_wp2_with (first | ((with_reducible refine zg 1 rfl ?_); refine zb 1 27 #[.int .i64 a0_0, .int .i64 a0_1] ?_; intro gb169 hg w16 BK169 hb; have GW169 := sg hg; replace HB := bs hb; clear hb hg; obtain ⟨hcz17_0, hcz17_1, hfz17_0, hfz17_1⟩ := z2 BK169) | ((with_reducible refine zg 13 rfl ?_); refine Kd.R_lit (Kd.int .i64) _ 2 ?hg (N := 13) ?hd (xs := ([a0_0, a0_1] : List Int)) (inner := [.int .i64 a0_0, .int .i64 a0_1]) (ok := fun _ => True) (okp := fun _ => True) ?hr ?hp (fun _ hk => hk) trivial (Below.refl _ _) (Nat.le_refl _) (by simp) ?_; (case hd => rfl); (case hg => rfl); (case hr => first | (go_simp; done) | (go_simp; rfl)); (case hp => exact (Reps.one (show Kd.M (Kd.int .i64) _ _ _ a0_0 [.int .i64 a0_0] from rfl) (Reps.one (show Kd.M (Kd.int .i64) _ _ _ a0_1 [.int .i64 a0_1] from rfl) (Reps.none _ _)))); intro v171 w18 ho19 hb hg_ hnew_; clear hg_ hnew_; (first | rw [← Ny170.out] at ho19 | (simp only [Int.reduceToNat] at ho19; rw [← Ny170.out] at ho19)); have HO172 := Aside0.mk (Kd.R_lower ho19 (below_size (bl))); replace BK169 := bb BK169 hb; replace HB := bs hb; clear hb ho19; obtain ⟨Ao20, co20, eo20⟩ := Kd.R_slice HO172.out; subst eo20) | ((with_reducible refine zf 29 rfl ?_); refine g1 (some 14) Tryz.func29 #[.int .i64 1000000, .slice Ao20 y170.length co20] ?_; (with_reducible refine (impl_within.calls k 1000000 _ _ y170 true _ ?side1 ?side2 A5.out).mono ?_); (case side1 => repeat (first | exact (Kd.R_reads' HO172.out).2.2 | (with_reducible refine Kd.C_alloc ?_ _) | (with_reducible refine Kd.C_drewN ?_ _) | (with_reducible refine Kd.C_drew ?_))); (case side2 => exact (Kd.R_reads' HO172.out).2.1); rintro e w' ⟨rfl, ⟨nd, rfl⟩⟩; refine ⟨_, rfl, ?_⟩; obtain ⟨hcz21_0, hcz21_1, hfz21_0, hfz21_1⟩ := z2 BK169))
    go_ret
    exact ⟨er, bl⟩
  ·replace c6 := Bool.eq_false_iff.mpr c6
   subst c6
   have H1 : (some false) = some r := by rw [if_neg (show ¬ (false = true) by decide)] at H; exact H
   clear H
   have H := H1
   clear H1
   obtain rfl := Option.some.inj H
   go_enter Tryz.func10, Tryz.ntmps10
   go_wp2_with (first | ((with_reducible refine zg 1 rfl ?_); refine zb 1 27 #[.int .i64 a0_0, .int .i64 a0_1] ?_; intro gb169 hg w22 BK169 hb; have GW169 := sg hg; replace HB := bs hb; clear hb hg; obtain ⟨hcz23_0, hcz23_1, hfz23_0, hfz23_1⟩ := z2 BK169) | ((with_reducible refine zg 13 rfl ?_); refine Kd.R_lit (Kd.int .i64) _ 2 ?hg (N := 13) ?hd (xs := ([a0_0, a0_1] : List Int)) (inner := [.int .i64 a0_0, .int .i64 a0_1]) (ok := fun _ => True) (okp := fun _ => True) ?hr ?hp (fun _ hk => hk) trivial (Below.refl _ _) (Nat.le_refl _) (by simp) ?_; (case hd => rfl); (case hg => rfl); (case hr => first | (go_simp; done) | (go_simp; rfl)); (case hp => exact (Reps.one (show Kd.M (Kd.int .i64) _ _ _ a0_0 [.int .i64 a0_0] from rfl) (Reps.one (show Kd.M (Kd.int .i64) _ _ _ a0_1 [.int .i64 a0_1] from rfl) (Reps.none _ _)))); intro v171 w24 ho25 hb hg_ hnew_; clear hg_ hnew_; (first | rw [← Ny170.out] at ho25 | (simp only [Int.reduceToNat] at ho25; rw [← Ny170.out] at ho25)); have HO172 := Aside0.mk (Kd.R_lower ho25 (below_size (bl))); replace BK169 := bb BK169 hb; replace HB := bs hb; clear hb ho25; obtain ⟨Ao26, co26, eo26⟩ := Kd.R_slice HO172.out; subst eo26) | ((with_reducible refine zf 29 rfl ?_); refine g1 (some 14) Tryz.func29 #[.int .i64 1000000, .slice Ao26 y170.length co26] ?_; (with_reducible refine (impl_within.calls k 1000000 _ _ y170 false _ ?side1 ?side2 A5.out).mono ?_); (case side1 => repeat (first | exact (Kd.R_reads' HO172.out).2.2 | (with_reducible refine Kd.C_alloc ?_ _) | (with_reducible refine Kd.C_drewN ?_ _) | (with_reducible refine Kd.C_drew ?_))); (case side2 => exact (Kd.R_reads' HO172.out).2.1); rintro e w' ⟨rfl, ⟨nd, rfl⟩⟩; refine ⟨_, rfl, ?_⟩))
   go_ret
   exact ⟨er, bl⟩

/-! ### impl_endAt: function 31 -/
def impl_endAt.f (k : Nat) (a0 : Int) (a1 : Int) : Option (Int × Int × Bool) := if a1 = 0 then (some (1, 0, true)) else ((impl_gcd.f k a0 a1).bind fun t176 => (if a1 < 0 then (if (wrap64 (-t176)) = 0 then (none) else ((impl_IsEnd.f k (wrap64 (Int.tdiv a0 (wrap64 (-t176)))) (wrap64 (Int.tdiv a1 (wrap64 (-t176))))).bind fun t178 => (some (wrap64 (Int.tdiv a0 (wrap64 (-t176))), wrap64 (Int.tdiv a1 (wrap64 (-t176))), t178)))) else (if t176 = 0 then (none) else ((impl_IsEnd.f k (wrap64 (Int.tdiv a0 t176)) (wrap64 (Int.tdiv a1 t176))).bind fun t180 => (some (wrap64 (Int.tdiv a0 t176), wrap64 (Int.tdiv a1 t176), t180))))))
def impl_endAt.T6 : Bool × List (List Nat × List Nat) := (true, [([], []), ([], []), ([0, 1], [0, 1]), ([], []), ([], []), ([3, 4], [3, 4]), ([2, 5], [2, 5]), ([], []), ([7, 6, 0, 1, 2, 3, 4, 5, 6, 7], [6, 7])])
def impl_endAt.B6 : List Nat := [0, 0, 3, 0, 0, 24, 63, 0, 255]
theorem impl_endAt.tab6 : rtab .any (opsOf Tryz.f31 6) = impl_endAt.T6 := by kernel_rfl
theorem impl_endAt.bits6 : waitsOk impl_endAt.T6.2 impl_endAt.B6 = true := by kernel_rfl
set_option maxHeartbeats 8000000 in
set_option maxRecDepth 100000 in
theorem impl_endAt.calls (k : Nat) (a0 : Int) (a1 : Int) (r1 : Int) (r2 : Int) (r3 : Bool) (w : World) (h : impl_endAt.f k a0 a1 = some (r1, r2, r3)) :
  Calls Tryz.prog 31 #[.int .i64 a0, .int .i64 a1] w fun e w' => e = .returned (.tuple #[.agg #[.int .i64 r1, .int .i64 r2], .bool r3]) ∧ Below w.heap.size w w' := by
 have hu27 := Tryz.underlying27
 have HB := Aside0.mk (Below.refl w.heap.size w)
 unfold impl_endAt.f at h
 have H := h
 clear h
 replace H := ii H
 rcases H with ⟨c3, H⟩ | ⟨c3, H⟩
 ·obtain ⟨c3b0, c3b1⟩ := zz c3
  clear c3
  simp only [Option.some.injEq, Prod.mk.injEq] at H
  obtain ⟨rfl, rfl, rfl⟩ := H
  go_enter Tryz.func31, Tryz.ntmps31
  go_wp2_with (first | ((with_reducible refine zg 4 rfl ?_); refine zb 4 27 #[.int .i64 0, .int .i64 0] ?_; intro gb175 hg w4 BK175 hb; have GW175 := sg hg; replace HB := bs hb; clear hb hg; obtain ⟨hcz5_0, hcz5_1, hfz5_0, hfz5_1⟩ := z2 BK175))
  refine bodyPost_ret (results_ct rfl _ _ gb175 27 #[.int .i64 1, .int .i64 0] (0, 0) _ rfl (bp) Tryz.underlying27 rfl (by kernel_rfl)) rfl ?_
  exact ⟨er, bl⟩
 ·obtain ⟨c3b0, c3b1⟩ := zy c3
  replace H := zi H
  obtain ⟨t176, A6, H⟩ := H
  try dsimp only at H
  replace H := ii H
  rcases H with ⟨c7, H⟩ | ⟨c7, H⟩
  ·have c7b0 := decide_eq_true c7
   clear c7
   replace H := ii H
   rcases H with ⟨c8, H⟩ | ⟨c8, H⟩
   ·exact absurd H (by simp)
   ·obtain ⟨c8b0, c8b1⟩ := zy c8
    replace H := zi H
    obtain ⟨t178, A9, H⟩ := H
    try dsimp only at H
    simp only [Option.some.injEq, Prod.mk.injEq] at H
    obtain ⟨rfl, rfl, rfl⟩ := H
    go_enter Tryz.func31, Tryz.ntmps31
    try go_wp2_with (first | ((with_reducible refine zg 4 rfl ?_); refine zb 4 27 #[.int .i64 0, .int .i64 0] ?_; intro gb175 hg w10 BK175 hb; have GW175 := sg hg; replace HB := bs hb; clear hb hg) | ((with_reducible refine zf 37 rfl ?_); refine g1 (some 13) Tryz.func37 #[.int .i64 a0, .int .i64 a1] ?_; (with_reducible refine (impl_gcd.calls k a0 a1 t176 _ A6.out).mono ?_); rintro e w11 ⟨rfl, hb⟩; refine ⟨_, rfl, ?_⟩; replace BK175 := bb BK175 hb; replace HB := bs hb; (try clear hb)))
    replace BK175 := Aside0.mk (blk_drew BK175.out)
    replace HB := Aside0.mk (below_drew1 HB.out)
    refine sw 9 (fun w' => True) impl_endAt.tab6 impl_endAt.bits6 trivial (fun hHeld HT_ HW_ => ?_)
    generalize w11.drew = w12 at BK175 HB hHeld ⊢
    refine pu 0 (some 18) (tA 9 1) HT_ ?_
    refine pu 1 (some 19) (tA 9 3) HT_ ?_
    refine pu 2 (some 20) (tA 9 7) HT_ ?_
    refine pu 3 (some 21) (tA 9 15) HT_ ?_
    refine pu 4 (some 22) (tA 9 31) HT_ ?_
    refine pu 5 (some 23) (tA 9 63) HT_ ?_
    refine pu 6 (some 24) (tA 9 127) HT_ ?_
    refine o1 7 (some 7) (tA 9 255) HT_ (fun K hK => ?_)
    refine box_step ?hg (N := 7) ?hd (cs := #[.int .i64 0, .int .i64 0]) (t := 27) ?hr ?_; (case hd => rfl); (case hg => rfl); (case hr => first | (go_simp; done) | (go_simp; rfl))
    intro gb177 hg w13 hbox hb
    have BK177 := Aside0.mk (hbox)
    have GW177 := Aside0.mk ((by rw [hg]; exact (below_size (bl)) : w.heap.size ≤ gb177))
    have GE177 := Aside0.mk ((by rw [hg]; exact (below_size (bl)) : w.heap.size ≤ gb177))
    have NB175_177 := nl hg BK175
    have NB177_175 := ng hg BK175
    replace BK175 := bb BK175 hb
    replace HB := bs hb
    clear hb hg
    refine hK.out _ _ trivial (fun hHeld => ?_)
    clear hK K
    refine nm (some 7) ?_
    refine o1 8 none (tA 9 511) HT_ (fun K hK => ?_)
    have hs14 : w13.cell? ⟨gb177, 0, none⟩ = some (.int .i64 0) := (blk_cell BK177.out 0).trans rfl
    have hfs14 := blk_frozen BK177.out 0
    have hns14_0 := NB175_177.out
    have hms14_0 := NB177_175.out
    have hs15 : w13.cell? ⟨gb177, 1, none⟩ = some (.int .i64 0) := (blk_cell BK177.out 1).trans rfl
    have hfs15 := blk_frozen BK177.out 1
    have hns15_0 := NB175_177.out
    have hms15_0 := NB177_175.out
    refine skip_ (w1 := ?_) (by rfl) rfl ?_ ?_
    rotate_left
    ·go_simp
     rfl
    refine hK.out _ _ trivial (fun hHeld => ?_)
    clear hK K
    refine done_ (done_of HT_.out (by kernel_rfl)) ?_
    try go_wp2
    have n0_ : Aside0 (((w13.setCell ⟨gb177, 0, none⟩ (.int .i64 (wrap64 (Int.tdiv a0 (wrap64 (-t176)))))).setCell ⟨gb177, 1, none⟩ (.int .i64 (wrap64 (Int.tdiv a1 (wrap64 (-t176)))))).heap[gb175]? = some (.cells #[.int .i64 0, .int .i64 0] 27 (0, 0))) := ⟨bp⟩
    have n1_ : Aside0 (((w13.setCell ⟨gb177, 0, none⟩ (.int .i64 (wrap64 (Int.tdiv a0 (wrap64 (-t176)))))).setCell ⟨gb177, 1, none⟩ (.int .i64 (wrap64 (Int.tdiv a1 (wrap64 (-t176)))))).heap[gb177]? = some (.cells #[.int .i64 (wrap64 (Int.tdiv a0 (wrap64 (-t176)))), .int .i64 (wrap64 (Int.tdiv a1 (wrap64 (-t176))))] 27 (0, 0))) := ⟨bp⟩
    have n2_ : Aside0 (Below w.heap.size w ((w13.setCell ⟨gb177, 0, none⟩ (.int .i64 (wrap64 (Int.tdiv a0 (wrap64 (-t176)))))).setCell ⟨gb177, 1, none⟩ (.int .i64 (wrap64 (Int.tdiv a1 (wrap64 (-t176))))))) := ⟨bl⟩
    (try clear BK175)
    (try clear BK177)
    (try clear HB)
    generalize ((w13.setCell ⟨gb177, 0, none⟩ (.int .i64 (wrap64 (Int.tdiv a0 (wrap64 (-t176)))))).setCell ⟨gb177, 1, none⟩ (.int .i64 (wrap64 (Int.tdiv a1 (wrap64 (-t176)))))) = w16 at n0_ n1_ n2_ ⊢
    have BK175 := n0_
    have BK177 := n1_
    have HB := n2_
    clear n0_ n1_ n2_
    replace BK175 := Aside0.mk (blk_drew BK175.out)
    replace BK177 := Aside0.mk (blk_drew BK177.out)
    replace HB := Aside0.mk (below_drew1 HB.out)
    refine start_ (n := 5) (S := fun w' => w'.cell? ⟨gb177, 0, none⟩ = some (.int .i64 (wrap64 (Int.tdiv a0 (wrap64 (-t176))))) ∧ w'.cell? ⟨gb177, 1, none⟩ = some (.int .i64 (wrap64 (Int.tdiv a1 (wrap64 (-t176)))))) (ds := []) #[false, false, false, false, false] (by kernel_rfl) rfl rfl ⟨(blk_cell BK177.out 0).trans rfl, (blk_cell BK177.out 1).trans rfl⟩ (fun hHeld => ?_)
    generalize w16.drew = w17 at BK175 BK177 HB hHeld ⊢
    refine tr2 0 (some 25) (tA 5 1) hHeld ?_
    refine tr2 1 (some 26) (tA 5 3) hHeld ?_
    refine one_ (i := 2) (N := some 27) #[true, true, true, false, false] rfl rfl (by kernel_rfl) (by decide) (fun K hK => ?_)
    refine gs Tryz.func10 #[.agg #[.int .i64 (wrap64 (Int.tdiv a0 (wrap64 (-t176)))), .int .i64 (wrap64 (Int.tdiv a1 (wrap64 (-t176))))]] ?_
    with_reducible refine (impl_IsEnd.calls k (wrap64 (Int.tdiv a0 (wrap64 (-t176)))) (wrap64 (Int.tdiv a1 (wrap64 (-t176)))) t178 _ A9.out).mono ?_
    rintro e w18 ⟨rfl, hb⟩
    refine ⟨_, rfl, ?_⟩
    replace BK175 := bb BK175 hb
    replace BK177 := bb BK177 hb
    replace HB := bs hb
    (try clear hb)
    (try clear hb2)
    (try clear hk)
    (try clear hi)
    refine hK.out _ _ ⟨(blk_cell BK177.out 0).trans rfl, (blk_cell BK177.out 1).trans rfl⟩ (fun hHeld => ?_)
    clear hK K
    refine nm (some 27) ?_
    refine one_ (i := 3) (N := none) #[true, true, true, true, false] rfl rfl (by kernel_rfl) (by decide) (fun K hK => ?_)
    have hs19 : w18.cell? ⟨gb175, 0, none⟩ = some (.int .i64 0) := (blk_cell BK175.out 0).trans rfl
    have hfs19 := blk_frozen BK175.out 0
    have hns19_1 := NB177_175.out
    have hms19_1 := NB175_177.out
    have hs20 : w18.cell? ⟨gb175, 1, none⟩ = some (.int .i64 0) := (blk_cell BK175.out 1).trans rfl
    have hfs20 := blk_frozen BK175.out 1
    have hns20_1 := NB177_175.out
    have hms20_1 := NB175_177.out
    refine skip_ (w1 := ?_) (by rfl) rfl ?_ ?_
    rotate_left
    ·go_simp
     rfl
    refine hK.out _ _ ⟨(cf gb175 NB177_175 ((cf gb175 NB177_175 (hHeld.1)))), (cf gb175 NB177_175 ((cf gb175 NB177_175 (hHeld.2))))⟩ (fun hHeld => ?_)
    clear hK K
    refine pr 4 (some 5) (tA 5 31) ?_
    refine done_ (by kernel_rfl) ?_
    try go_wp2
    refine bodyPost_ret (results_ct rfl _ _ gb175 27 #[.int .i64 (wrap64 (Int.tdiv a0 (wrap64 (-t176)))), .int .i64 (wrap64 (Int.tdiv a1 (wrap64 (-t176))))] (0, 0) _ rfl (bp) Tryz.underlying27 rfl (by kernel_rfl)) rfl ?_
    exact ⟨er, bl⟩
  ·have c7b0 := decide_eq_false c7
   clear c7
   replace H := ii H
   rcases H with ⟨c21, H⟩ | ⟨c21, H⟩
   ·exact absurd H (by simp)
   ·obtain ⟨c21b0, c21b1⟩ := zy c21
    replace H := zi H
    obtain ⟨t180, A22, H⟩ := H
    try dsimp only at H
    simp only [Option.some.injEq, Prod.mk.injEq] at H
    obtain ⟨rfl, rfl, rfl⟩ := H
    go_enter Tryz.func31, Tryz.ntmps31
    try go_wp2_with (first | ((with_reducible refine zg 4 rfl ?_); refine zb 4 27 #[.int .i64 0, .int .i64 0] ?_; intro gb175 hg w23 BK175 hb; have GW175 := sg hg; replace HB := bs hb; clear hb hg) | ((with_reducible refine zf 37 rfl ?_); refine g1 (some 13) Tryz.func37 #[.int .i64 a0, .int .i64 a1] ?_; (with_reducible refine (impl_gcd.calls k a0 a1 t176 _ A6.out).mono ?_); rintro e w24 ⟨rfl, hb⟩; refine ⟨_, rfl, ?_⟩; replace BK175 := bb BK175 hb; replace HB := bs hb; (try clear hb)))
    replace BK175 := Aside0.mk (blk_drew BK175.out)
    replace HB := Aside0.mk (below_drew1 HB.out)
    refine sw 9 (fun w' => True) impl_endAt.tab6 impl_endAt.bits6 trivial (fun hHeld HT_ HW_ => ?_)
    generalize w24.drew = w25 at BK175 HB hHeld ⊢
    refine pu 0 (some 18) (tA 9 1) HT_ ?_
    refine pu 1 (some 19) (tA 9 3) HT_ ?_
    refine pu 2 (some 20) (tA 9 7) HT_ ?_
    refine pu 3 (some 21) (tA 9 15) HT_ ?_
    refine pu 4 (some 22) (tA 9 31) HT_ ?_
    refine pu 5 (some 23) (tA 9 63) HT_ ?_
    refine pu 6 (some 24) (tA 9 127) HT_ ?_
    refine o1 7 (some 7) (tA 9 255) HT_ (fun K hK => ?_)
    refine box_step ?hg (N := 7) ?hd (cs := #[.int .i64 0, .int .i64 0]) (t := 27) ?hr ?_; (case hd => rfl); (case hg => rfl); (case hr => first | (go_simp; done) | (go_simp; rfl))
    intro gb179 hg w26 hbox hb
    have BK179 := Aside0.mk (hbox)
    have GW179 := Aside0.mk ((by rw [hg]; exact (below_size (bl)) : w.heap.size ≤ gb179))
    have GE179 := Aside0.mk ((by rw [hg]; exact (below_size (bl)) : w.heap.size ≤ gb179))
    have NB175_179 := nl hg BK175
    have NB179_175 := ng hg BK175
    replace BK175 := bb BK175 hb
    replace HB := bs hb
    clear hb hg
    refine hK.out _ _ trivial (fun hHeld => ?_)
    clear hK K
    refine nm (some 7) ?_
    refine o1 8 none (tA 9 511) HT_ (fun K hK => ?_)
    have hs27 : w26.cell? ⟨gb179, 0, none⟩ = some (.int .i64 0) := (blk_cell BK179.out 0).trans rfl
    have hfs27 := blk_frozen BK179.out 0
    have hns27_0 := NB175_179.out
    have hms27_0 := NB179_175.out
    have hs28 : w26.cell? ⟨gb179, 1, none⟩ = some (.int .i64 0) := (blk_cell BK179.out 1).trans rfl
    have hfs28 := blk_frozen BK179.out 1
    have hns28_0 := NB175_179.out
    have hms28_0 := NB179_175.out
    refine skip_ (w1 := ?_) (by rfl) rfl ?_ ?_
    rotate_left
    ·go_simp
     rfl
    refine hK.out _ _ trivial (fun hHeld => ?_)
    clear hK K
    refine done_ (done_of HT_.out (by kernel_rfl)) ?_
    try go_wp2
    have n0_ : Aside0 (((w26.setCell ⟨gb179, 0, none⟩ (.int .i64 (wrap64 (Int.tdiv a0 t176)))).setCell ⟨gb179, 1, none⟩ (.int .i64 (wrap64 (Int.tdiv a1 t176)))).heap[gb175]? = some (.cells #[.int .i64 0, .int .i64 0] 27 (0, 0))) := ⟨bp⟩
    have n1_ : Aside0 (((w26.setCell ⟨gb179, 0, none⟩ (.int .i64 (wrap64 (Int.tdiv a0 t176)))).setCell ⟨gb179, 1, none⟩ (.int .i64 (wrap64 (Int.tdiv a1 t176)))).heap[gb179]? = some (.cells #[.int .i64 (wrap64 (Int.tdiv a0 t176)), .int .i64 (wrap64 (Int.tdiv a1 t176))] 27 (0, 0))) := ⟨bp⟩
    have n2_ : Aside0 (Below w.heap.size w ((w26.setCell ⟨gb179, 0, none⟩ (.int .i64 (wrap64 (Int.tdiv a0 t176)))).setCell ⟨gb179, 1, none⟩ (.int .i64 (wrap64 (Int.tdiv a1 t176))))) := ⟨bl⟩
    (try clear BK175)
    (try clear BK179)
    (try clear HB)
    generalize ((w26.setCell ⟨gb179, 0, none⟩ (.int .i64 (wrap64 (Int.tdiv a0 t176)))).setCell ⟨gb179, 1, none⟩ (.int .i64 (wrap64 (Int.tdiv a1 t176)))) = w29 at n0_ n1_ n2_ ⊢
    have BK175 := n0_
    have BK179 := n1_
    have HB := n2_
    clear n0_ n1_ n2_
    replace BK175 := Aside0.mk (blk_drew BK175.out)
    replace BK179 := Aside0.mk (blk_drew BK179.out)
    replace HB := Aside0.mk (below_drew1 HB.out)
    refine start_ (n := 5) (S := fun w' => w'.cell? ⟨gb179, 0, none⟩ = some (.int .i64 (wrap64 (Int.tdiv a0 t176))) ∧ w'.cell? ⟨gb179, 1, none⟩ = some (.int .i64 (wrap64 (Int.tdiv a1 t176)))) (ds := []) #[false, false, false, false, false] (by kernel_rfl) rfl rfl ⟨(blk_cell BK179.out 0).trans rfl, (blk_cell BK179.out 1).trans rfl⟩ (fun hHeld => ?_)
    generalize w29.drew = w30 at BK175 BK179 HB hHeld ⊢
    refine tr2 0 (some 25) (tA 5 1) hHeld ?_
    refine tr2 1 (some 26) (tA 5 3) hHeld ?_
    refine one_ (i := 2) (N := some 27) #[true, true, true, false, false] rfl rfl (by kernel_rfl) (by decide) (fun K hK => ?_)
    refine gs Tryz.func10 #[.agg #[.int .i64 (wrap64 (Int.tdiv a0 t176)), .int .i64 (wrap64 (Int.tdiv a1 t176))]] ?_
    with_reducible refine (impl_IsEnd.calls k (wrap64 (Int.tdiv a0 t176)) (wrap64 (Int.tdiv a1 t176)) t180 _ A22.out).mono ?_
    rintro e w31 ⟨rfl, hb⟩
    refine ⟨_, rfl, ?_⟩
    replace BK175 := bb BK175 hb
    replace BK179 := bb BK179 hb
    replace HB := bs hb
    (try clear hb)
    (try clear hb2)
    (try clear hk)
    (try clear hi)
    refine hK.out _ _ ⟨(blk_cell BK179.out 0).trans rfl, (blk_cell BK179.out 1).trans rfl⟩ (fun hHeld => ?_)
    clear hK K
    refine nm (some 27) ?_
    refine one_ (i := 3) (N := none) #[true, true, true, true, false] rfl rfl (by kernel_rfl) (by decide) (fun K hK => ?_)
    have hs32 : w31.cell? ⟨gb175, 0, none⟩ = some (.int .i64 0) := (blk_cell BK175.out 0).trans rfl
    have hfs32 := blk_frozen BK175.out 0
    have hns32_1 := NB179_175.out
    have hms32_1 := NB175_179.out
    have hs33 : w31.cell? ⟨gb175, 1, none⟩ = some (.int .i64 0) := (blk_cell BK175.out 1).trans rfl
    have hfs33 := blk_frozen BK175.out 1
    have hns33_1 := NB179_175.out
    have hms33_1 := NB175_179.out
    refine skip_ (w1 := ?_) (by rfl) rfl ?_ ?_
    rotate_left
    ·go_simp
     rfl
    refine hK.out _ _ ⟨(cf gb175 NB179_175 ((cf gb175 NB179_175 (hHeld.1)))), (cf gb175 NB179_175 ((cf gb175 NB179_175 (hHeld.2))))⟩ (fun hHeld => ?_)
    clear hK K
    refine pr 4 (some 5) (tA 5 31) ?_
    refine done_ (by kernel_rfl) ?_
    try go_wp2
    refine bodyPost_ret (results_ct rfl _ _ gb175 27 #[.int .i64 (wrap64 (Int.tdiv a0 t176)), .int .i64 (wrap64 (Int.tdiv a1 t176))] (0, 0) _ rfl (bp) Tryz.underlying27 rfl (by kernel_rfl)) rfl ?_
    exact ⟨er, bl⟩

/-! ### impl_EndOf: function 6 -/
def impl_EndOf.j0 : Nat → Int → Int → Bool → Option (Int × Int × Int)
 | 0, _, _, _ => none
 | k + 1, x0, x1, x13 => if x13 = true then (some (0, 0, 5)) else ((impl_endAt.f k x0 x1).bind fun bt186 => ((impl_fittedEnd.f bt186.1 bt186.2.1 bt186.2.2).bind fun bt189 => (some (bt189.1, bt189.2.1, bt189.2.2))))
def impl_EndOf.f (k : Nat) (a0 : Int) (a1 : Int) : Option (Int × Int × Int) := (impl_within.f k 100000000000000000 (([a0, a1] : List Int))).bind fun t185 => (if t185 = true then (if a0 = 0 then (impl_EndOf.j0 k a0 a1 (a1 == 0)) else (impl_EndOf.j0 k a0 a1 false)) else (some (0, 0, 2)))
set_option maxHeartbeats 8000000 in
set_option maxRecDepth 100000 in
theorem impl_EndOf.calls (k : Nat) (a0 : Int) (a1 : Int) (r1 : Int) (r2 : Int) (r3 : Int) (w : World) (h : impl_EndOf.f k a0 a1 = some (r1, r2, r3)) :
  Calls Tryz.prog 6 #[.int .i64 a0, .int .i64 a1] w fun e w' => e = .returned (.tuple #[.agg #[.int .i64 r1, .int .i64 r2], .int .i64 r3]) ∧ Below w.heap.size w w' := by
 have hu27 := Tryz.underlying27
 have HB := Aside0.mk (Below.refl w.heap.size w)
 unfold impl_EndOf.f at h
 have H := h
 clear h
 obtain ⟨y182, hy182⟩ : ∃ y_ : List Int, y_ = (([a0, a1] : List Int)) := ⟨_, rfl⟩
 replace H : ((impl_within.f k 100000000000000000 y182).bind fun t185 => (if t185 = true then (if a0 = 0 then (impl_EndOf.j0 k a0 a1 (a1 == 0)) else (impl_EndOf.j0 k a0 a1 false)) else (some (0, 0, 2)))) = some (r1, r2, r3) := by first | exact hy182 ▸ H | exact H
 have Ny182 := Aside0.mk hy182
 clear hy182
 replace H := zi H
 obtain ⟨t185, A3, H⟩ := H
 try dsimp only at H
 by_cases c4 : t185 = true
 ·subst c4
  rw [if_pos rfl] at H
  have HC5 := Aside0.mk H
  clear H
  go_enter Tryz.func6, Tryz.ntmps6
  go_upto_region 3 with (first | ((with_reducible refine zg 4 rfl ?_); refine zb 4 27 #[.int .i64 0, .int .i64 0] ?_; intro gb181 hg w6 BK181 hb; have GW181 := sg hg; replace HB := bs hb; clear hb hg) | ((with_reducible refine zg 9 rfl ?_); refine Kd.R_lit (Kd.int .i64) _ 2 ?hg (N := 9) ?hd (xs := ([a0, a1] : List Int)) (inner := [.int .i64 a0, .int .i64 a1]) (ok := fun _ => True) (okp := fun _ => True) ?hr ?hp (fun _ hk => hk) trivial (Below.refl _ _) (Nat.le_refl _) (by simp) ?_; (case hd => rfl); (case hg => rfl); (case hr => first | (go_simp; done) | (go_simp; rfl)); (case hp => exact (Reps.one (show Kd.M (Kd.int .i64) _ _ _ a0 [.int .i64 a0] from rfl) (Reps.one (show Kd.M (Kd.int .i64) _ _ _ a1 [.int .i64 a1] from rfl) (Reps.none _ _)))); intro v183 w7 ho8 hb hg_ hnew_; clear hg_ hnew_; (first | rw [← Ny182.out] at ho8 | (simp only [Int.reduceToNat] at ho8; rw [← Ny182.out] at ho8)); have HO184 := Aside0.mk (Kd.R_lower ho8 (below_size (bl))); replace BK181 := bb BK181 hb; replace HB := bs hb; clear hb ho8; obtain ⟨Ao9, co9, eo9⟩ := Kd.R_slice HO184.out; subst eo9) | ((with_reducible refine zf 29 rfl ?_); refine g1 (some 10) Tryz.func29 #[.int .i64 100000000000000000, .slice Ao9 y182.length co9] ?_; (with_reducible refine (impl_within.calls k 100000000000000000 _ _ y182 true _ ?side1 ?side2 A3.out).mono ?_); (case side1 => repeat (first | exact (Kd.R_reads' HO184.out).2.2 | (with_reducible refine Kd.C_alloc ?_ _) | (with_reducible refine Kd.C_drewN ?_ _) | (with_reducible refine Kd.C_drew ?_))); (case side2 => exact (Kd.R_reads' HO184.out).2.1); rintro e w' ⟨rfl, ⟨nd, rfl⟩⟩; refine ⟨_, rfl, ?_⟩))
  (try simp only [Act.put, zq, zr, zt])
  go_cut [13] (fun v13 wc => ∃ (kq : Nat) (x13_4 : Bool), v13 = .bool x13_4 ∧ Aside0 (impl_EndOf.j0 kq a0 a1 x13_4 = some (r1, r2, r3)) ∧ Aside0 (kq ≤ k) ∧ Aside0 (wc.heap[gb181]? = some (.cells #[.int .i64 0, .int .i64 0] 27 (0, 0))) ∧ Aside0 (Below w.heap.size w wc))
  case first =>
   have H := HC5.out
   clear HC5
   replace H := ii H
   rcases H with ⟨c10, H⟩ | ⟨c10, H⟩
   ·obtain ⟨c10b0, c10b1⟩ := zz c10
    clear c10
    (first | rw [c10b0] | (simp only [i64_w, i32_w]; rw [c10b0]) | skip)
    have H' := Aside0.mk H
    clear H
    go_wp2
    go_meet
    case rel => exact ⟨_, ((a1 == 0)), (by first | rfl | (simp; done) | (simp [*]; done)), H', ⟨by first | omega | exact Nat.le_refl _⟩, ⟨be BK181⟩, ⟨bl⟩⟩
   ·obtain ⟨c10b0, c10b1⟩ := zy c10
    (first | rw [c10b0] | (simp only [i64_w, i32_w]; rw [c10b0]) | skip)
    have H' := Aside0.mk H
    clear H
    go_wp2
    go_meet
    case rel => exact ⟨_, (false), (by first | rfl | (simp; done) | (simp [*]; done)), H', ⟨by first | omega | exact Nat.le_refl _⟩, ⟨be BK181⟩, ⟨bl⟩⟩
  case rest =>
   clear HC5
   obtain ⟨kq, x13_4, rfl, HA, HJ4, BK181, HB⟩ := hcut
   cases kq with
   | zero => exact absurd HA.out (by simp [impl_EndOf.j0])
   | succ kj4 =>
    have H := HA.out
    clear HA
    simp only [impl_EndOf.j0] at H
    by_cases c11 : x13_4 = true
    ·subst c11
     rw [if_pos rfl] at H
     simp only [Option.some.injEq, Prod.mk.injEq] at H
     obtain ⟨rfl, rfl, rfl⟩ := H
     obtain ⟨hcz12_0, hcz12_1, hfz12_0, hfz12_1⟩ := z2 BK181
     go_wp2
     refine bodyPost_ret (results_ct rfl _ _ gb181 27 #[.int .i64 0, .int .i64 0] (0, 0) _ rfl (bp) Tryz.underlying27 rfl (by kernel_rfl)) rfl ?_
     exact ⟨er, bl⟩
    ·replace c11 := Bool.eq_false_iff.mpr c11
     subst c11
     have H1 : ((impl_endAt.f kj4 a0 a1).bind fun bt186 => ((impl_fittedEnd.f bt186.1 bt186.2.1 bt186.2.2).bind fun bt189 => (some (bt189.1, bt189.2.1, bt189.2.2)))) = some (r1, r2, r3) := by rw [if_neg (show ¬ (false = true) by decide)] at H; exact H
     clear H
     have H := H1
     clear H1
     replace H := zi H
     obtain ⟨⟨t186, t187, t188⟩, A13, H⟩ := H
     try dsimp only at H
     replace H := zi H
     obtain ⟨⟨t189, t190, t191⟩, A14, H⟩ := H
     try dsimp only at H
     simp only [Option.some.injEq, Prod.mk.injEq] at H
     obtain ⟨rfl, rfl, rfl⟩ := H
     go_wp2_with (first | ((with_reducible refine zf 31 rfl ?_); refine g1 (some 23) Tryz.func31 #[.int .i64 a0, .int .i64 a1] ?_; (with_reducible refine (impl_endAt.calls kj4 a0 a1 t186 t187 t188 _ A13.out).mono ?_); rintro e w15 ⟨rfl, hb⟩; refine ⟨_, rfl, ?_⟩; replace BK181 := bb BK181 hb; replace HB := bs hb; (try clear hb)) | ((with_reducible refine zf 30 rfl ?_); refine g1 (some 26) Tryz.func30 #[.agg #[.int .i64 t186, .int .i64 t187], .bool t188] ?_; (with_reducible refine (impl_fittedEnd.calls t186 t187 t188 t189 t190 t191 _ A14.out).mono ?_); rintro e w16 ⟨rfl, hb⟩; refine ⟨_, rfl, ?_⟩; replace BK181 := bb BK181 hb; replace HB := bs hb; (try clear hb); obtain ⟨hcz17_0, hcz17_1, hfz17_0, hfz17_1⟩ := z2 BK181))
     refine bodyPost_ret (results_ct rfl _ _ gb181 27 #[.int .i64 t189, .int .i64 t190] (0, 0) _ rfl (bp) Tryz.underlying27 rfl (by kernel_rfl)) rfl ?_
     exact ⟨er, bl⟩
 ·replace c4 := Bool.eq_false_iff.mpr c4
  subst c4
  have H1 : (some (0, 0, 2)) = some (r1, r2, r3) := by rw [if_neg (show ¬ (false = true) by decide)] at H; exact H
  clear H
  have H := H1
  clear H1
  simp only [Option.some.injEq, Prod.mk.injEq] at H
  obtain ⟨rfl, rfl, rfl⟩ := H
  go_enter Tryz.func6, Tryz.ntmps6
  go_wp2_with (first | ((with_reducible refine zg 4 rfl ?_); refine zb 4 27 #[.int .i64 0, .int .i64 0] ?_; intro gb181 hg w18 BK181 hb; have GW181 := sg hg; replace HB := bs hb; clear hb hg) | ((with_reducible refine zg 9 rfl ?_); refine Kd.R_lit (Kd.int .i64) _ 2 ?hg (N := 9) ?hd (xs := ([a0, a1] : List Int)) (inner := [.int .i64 a0, .int .i64 a1]) (ok := fun _ => True) (okp := fun _ => True) ?hr ?hp (fun _ hk => hk) trivial (Below.refl _ _) (Nat.le_refl _) (by simp) ?_; (case hd => rfl); (case hg => rfl); (case hr => first | (go_simp; done) | (go_simp; rfl)); (case hp => exact (Reps.one (show Kd.M (Kd.int .i64) _ _ _ a0 [.int .i64 a0] from rfl) (Reps.one (show Kd.M (Kd.int .i64) _ _ _ a1 [.int .i64 a1] from rfl) (Reps.none _ _)))); intro v183 w19 ho20 hb hg_ hnew_; clear hg_ hnew_; (first | rw [← Ny182.out] at ho20 | (simp only [Int.reduceToNat] at ho20; rw [← Ny182.out] at ho20)); have HO184 := Aside0.mk (Kd.R_lower ho20 (below_size (bl))); replace BK181 := bb BK181 hb; replace HB := bs hb; clear hb ho20; obtain ⟨Ao21, co21, eo21⟩ := Kd.R_slice HO184.out; subst eo21) | ((with_reducible refine zf 29 rfl ?_); refine g1 (some 10) Tryz.func29 #[.int .i64 100000000000000000, .slice Ao21 y182.length co21] ?_; (with_reducible refine (impl_within.calls k 100000000000000000 _ _ y182 false _ ?side1 ?side2 A3.out).mono ?_); (case side1 => repeat (first | exact (Kd.R_reads' HO184.out).2.2 | (with_reducible refine Kd.C_alloc ?_ _) | (with_reducible refine Kd.C_drewN ?_ _) | (with_reducible refine Kd.C_drew ?_))); (case side2 => exact (Kd.R_reads' HO184.out).2.1); rintro e w' ⟨rfl, ⟨nd, rfl⟩⟩; refine ⟨_, rfl, ?_⟩; (try (rw [drewN_self w19]; generalize hq_ : World.drewN w19 _ = w19; have n0_ : Aside0 (Kd.R (Kd.int .i64) 2 w19 w.heap.size (fun _ => True) (.slice Ao21 y182.length co21) y182) := ⟨by rw [← hq_]; exact (by (with_reducible repeat (first | apply Kd.R_alloc | apply Kd.R_drewN | apply Kd.R_drew)); exact HO184.out)⟩; have n1_ : Aside0 (w19.heap[gb181]? = some (.cells #[.int .i64 0, .int .i64 0] 27 (0, 0))) := ⟨by rw [← hq_]; exact (be BK181)⟩; have n2_ : Aside0 (Below w.heap.size w w19) := ⟨by rw [← hq_]; exact (bl)⟩; clear HO184 BK181 HB hq_; have HO184 := n0_; have BK181 := n1_; have HB := n2_; clear n0_ n1_ n2_)); obtain ⟨hcz22_0, hcz22_1, hfz22_0, hfz22_1⟩ := z2 BK181))
  refine bodyPost_ret (results_ct rfl _ _ gb181 27 #[.int .i64 0, .int .i64 0] (0, 0) _ rfl (bp) Tryz.underlying27 rfl (by kernel_rfl)) rfl ?_
  exact ⟨er, bl⟩

/-! ### spec_l01In: function 32 -/
def spec_l01In.f (a0 : Int) (a1 : Int) (a2 : Int) : Option (Bool) := if a0 ≥ a1 then (some (decide (a0 ≤ a2))) else (some false)
set_option maxHeartbeats 8000000 in
set_option maxRecDepth 100000 in
theorem spec_l01In.calls (a0 : Int) (a1 : Int) (a2 : Int) (r : Bool) (w : World) (h : spec_l01In.f a0 a1 a2 = some r) :
  Calls Tryz.prog 32 #[.int .i64 a0, .int .i64 a1, .int .i64 a2] w fun e w' => e = .returned (.bool r) ∧ Drawn0 w w' := by
 unfold spec_l01In.f at h
 have H := h
 clear h
 replace H := ii H
 rcases H with ⟨c4, H⟩ | ⟨c4, H⟩
 ·have c4b0 := decide_eq_true c4
  clear c4
  obtain rfl := Option.some.inj H
  go_enter Tryz.func32, Tryz.ntmps32
  go_wp2
  go_ret
  exact zx
 ·have c4b0 := decide_eq_false c4
  clear c4
  obtain rfl := Option.some.inj H
  go_enter Tryz.func32, Tryz.ntmps32
  go_wp2
  go_ret
  exact zx

end Go.Proofs.YtgdkmchphpjifaaGreatDoor.PFnEnds

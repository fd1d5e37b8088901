-- Printed by the kit's print and repaired by a program of this session.
import Derived.Test.YtkfodnlogflcpaaPFnLatticesx0
import Derived.Test.YtkfodnlogflcpaaPFnLatticesx3
import Derived.Test.YtkfodnlogflcpaaPFnLatticesx6
namespace Go.Proofs.Ytkfodnlogflcpaa.PFnLattices
open Go.RowKit Go.Proofs.YtkfodnlogflcpaaW.PrintWords Go.Proofs.YtkfodnlogflcpaaW.PrintLast Go.Proofs.YtkfodnlogflcpaaW.PrintMore
attribute [local go_sem] max2_int min2_int max_two min_two max_three min_three max_four min_four
set_option linter.unusedVariables false
set_option linter.unusedSimpArgs false

/-! ### spec_l03Cross: function 78 -/
def spec_l03Cross.f (k : Nat) (a0 : Int) (a1 : Int) (a2 : Int) (a3 : Int) (a4 : Int) : Option (Int) := (spec_l01Power.f k a0 13).bind fun t203 => ((spec_l01MulMod.f a1 a2 t203).bind fun t204 => ((spec_l01MulMod.f a3 a4 t203).bind fun t205 => (if t203 = 0 then (none) else (if (Int.tmod (wrap64 ((wrap64 (t204 - t205)) + t203)) t203) = 0 then (some (-1)) else ((spec_l01Val.f k a0 (Int.tmod (wrap64 ((wrap64 (t204 - t205)) + t203)) t203)).bind fun t206 => (some t206))))))
set_option maxHeartbeats 8000000 in
set_option maxRecDepth 100000 in
theorem spec_l03Cross.calls (k : Nat) (a0 : Int) (a1 : Int) (a2 : Int) (a3 : Int) (a4 : Int) (r : Int) (w : World) (h : spec_l03Cross.f k a0 a1 a2 a3 a4 = some r) :
  Calls Try.prog 78 #[.int .i64 a0, .int .i64 a1, .int .i64 a2, .int .i64 a3, .int .i64 a4] w fun e w' => e = .returned (.int .i64 r) ∧ Drawn0 w w' := by
 unfold spec_l03Cross.f at h
 have H := h
 clear h
 replace H := zi H
 obtain ⟨t203, A6, H⟩ := H
 try dsimp only at H
 replace H := zi H
 obtain ⟨t204, A7, H⟩ := H
 try dsimp only at H
 replace H := zi H
 obtain ⟨t205, A8, H⟩ := H
 try dsimp only at H
 replace H := ii H
 rcases H with ⟨c9, H⟩ | ⟨c9, H⟩
 ·exact absurd H (by simp)
 ·obtain ⟨c9b0, c9b1⟩ := zy c9
  replace H := ii H
  rcases H with ⟨c10, H⟩ | ⟨c10, H⟩
  ·obtain ⟨c10b0, c10b1⟩ := zz c10
   clear c10
   obtain rfl := Option.some.inj H
   go_enter Try.func78, Try.ntmps78
   go_wp2_with (first | ((with_reducible refine zf 34 rfl ?_); refine g1 (some 14) Try.func34 #[.int .i64 a0, .int .i64 13] ?_; (with_reducible refine (spec_l01Power.calls k a0 13 t203 _ A6.out).mono ?_); rintro e w' ⟨rfl, ⟨nd, rfl⟩⟩; refine ⟨_, rfl, ?_⟩) | ((with_reducible refine zf 35 rfl ?_); refine g1 (some 18) Try.func35 #[.int .i64 a1, .int .i64 a2, .int .i64 t203] ?_; (with_reducible refine (spec_l01MulMod.calls a1 a2 t203 t204 _ A7.out).mono ?_); rintro e w' ⟨rfl, ⟨nd, rfl⟩⟩; refine ⟨_, rfl, ?_⟩) | ((with_reducible refine zf 35 rfl ?_); refine g1 (some 22) Try.func35 #[.int .i64 a3, .int .i64 a4, .int .i64 t203] ?_; (with_reducible refine (spec_l01MulMod.calls a3 a4 t203 t205 _ A8.out).mono ?_); rintro e w' ⟨rfl, ⟨nd, rfl⟩⟩; refine ⟨_, rfl, ?_⟩))
   go_ret
   exact zx
  ·obtain ⟨c10b0, c10b1⟩ := zy c10
   replace H := zi H
   obtain ⟨t206, A11, H⟩ := H
   try dsimp only at H
   obtain rfl := Option.some.inj H
   go_enter Try.func78, Try.ntmps78
   go_wp2_with (first | ((with_reducible refine zf 34 rfl ?_); refine g1 (some 14) Try.func34 #[.int .i64 a0, .int .i64 13] ?_; (with_reducible refine (spec_l01Power.calls k a0 13 t203 _ A6.out).mono ?_); rintro e w' ⟨rfl, ⟨nd, rfl⟩⟩; refine ⟨_, rfl, ?_⟩) | ((with_reducible refine zf 35 rfl ?_); refine g1 (some 18) Try.func35 #[.int .i64 a1, .int .i64 a2, .int .i64 t203] ?_; (with_reducible refine (spec_l01MulMod.calls a1 a2 t203 t204 _ A7.out).mono ?_); rintro e w' ⟨rfl, ⟨nd, rfl⟩⟩; refine ⟨_, rfl, ?_⟩) | ((with_reducible refine zf 35 rfl ?_); refine g1 (some 22) Try.func35 #[.int .i64 a3, .int .i64 a4, .int .i64 t203] ?_; (with_reducible refine (spec_l01MulMod.calls a3 a4 t203 t205 _ A8.out).mono ?_); rintro e w' ⟨rfl, ⟨nd, rfl⟩⟩; refine ⟨_, rfl, ?_⟩) | ((with_reducible refine zf 77 rfl ?_); refine g1 (some 32) Try.func77 #[.int .i64 a0, .int .i64 (Int.tmod (wrap64 ((wrap64 (t204 - t205)) + t203)) t203)] ?_; (with_reducible refine (spec_l01Val.calls k a0 (Int.tmod (wrap64 ((wrap64 (t204 - t205)) + t203)) t203) t206 _ A11.out).mono ?_); rintro e w' ⟨rfl, ⟨nd, rfl⟩⟩; refine ⟨_, rfl, ?_⟩))
   go_ret
   exact zx

/-! ### spec_l01InvMod: function 79 -/
def spec_l01InvMod.l0 : Nat → Int → Int → Int → Int → Int → Option (Int)
 | 0, _, _, _, _, _ => none
 | k + 1, x1, x5, x6, x7, x8 => if x6 = 0 then (if x1 = 0 then (none) else (some (Int.tmod (wrap64 ((Int.tmod x7 x1) + x1)) x1))) else (spec_l01InvMod.l0 k x1 x6 (wrap64 (x5 - (wrap64 ((wrap64 (Int.tdiv x5 x6)) * x6)))) x8 (wrap64 (x7 - (wrap64 ((wrap64 (Int.tdiv x5 x6)) * x8)))))
def spec_l01InvMod.f (k : Nat) (a0 : Int) (a1 : Int) : Option (Int) := if a1 = 0 then (none) else (spec_l01InvMod.l0 k a1 (Int.tmod (wrap64 ((Int.tmod a0 a1) + a1)) a1) a1 1 0)
set_option maxHeartbeats 8000000 in
set_option maxRecDepth 100000 in
theorem spec_l01InvMod.calls (k : Nat) (a0 : Int) (a1 : Int) (r : Int) (w : World) (h : spec_l01InvMod.f k a0 a1 = some r) :
  Calls Try.prog 79 #[.int .i64 a0, .int .i64 a1] w fun e w' => e = .returned (.int .i64 r) ∧ Drawn0 w w' := by
 unfold spec_l01InvMod.f at h
 have H := h
 clear h
 replace H := ii H
 rcases H with ⟨c3, H⟩ | ⟨c3, H⟩
 ·exact absurd H (by simp)
 ·obtain ⟨c3b0, c3b1⟩ := zy c3
  have H' := Aside0.mk H
  clear H
  go_enter Try.func79, Try.ntmps79
  go_wp2
  go_loopg [5, 6, 7, 8] k (fun kq v5 v6 v7 v8 w' => ∃ (x5_1 : Int) (x6_1 : Int) (x7_1 : Int) (x8_1 : Int), v5 = .int .i64 x5_1 ∧ v6 = .int .i64 x6_1 ∧ v7 = .int .i64 x7_1 ∧ v8 = .int .i64 x8_1 ∧ Aside0 (spec_l01InvMod.l0 kq a1 x5_1 x6_1 x7_1 x8_1 = some r) ∧ Aside0 (kq ≤ k) ∧ Drawn0 w w')
  case atStart => exact ⟨(Int.tmod (wrap64 ((Int.tmod a0 a1) + a1)) a1), (a1), (1), (0), (by first | rfl | (simp; done) | (simp [*]; done)), (by first | rfl | (simp; done) | (simp [*]; done)), (by first | rfl | (simp; done) | (simp [*]; done)), (by first | rfl | (simp; done) | (simp [*]; done)), H', ⟨Nat.le_refl _⟩, by repeat (first | exact Drawn0.refl _ | apply Drawn0.step)⟩
  case round =>
   clear H'
   obtain ⟨x5_1, x6_1, x7_1, x8_1, rfl, rfl, rfl, rfl, HA, HK1, ⟨m1, rfl⟩⟩ := hrel
   cases gk with
   | zero => exact absurd HA.out (by simp [spec_l01InvMod.l0])
   | succ k1 =>
    have H := HA.out
    clear HA
    simp only [spec_l01InvMod.l0] at H
    replace H := ii H
    rcases H with ⟨c4, H⟩ | ⟨c4, H⟩
    ·obtain ⟨c4b0, c4b1⟩ := zz c4
     clear c4
     replace H := ii H
     rcases H with ⟨c5, H⟩ | ⟨c5, H⟩
     ·exact absurd H (by simp)
     ·obtain ⟨c5b0, c5b1⟩ := zy c5
      obtain rfl := Option.some.inj H
      go_wp2
      go_ret
      exact zx
    ·obtain ⟨c4b0, c4b1⟩ := zy c4
     have H' := Aside0.mk H
     clear H
     go_wp2
     go_roundg k1
     case measure => have := HK1.out; omega
     case rel => exact ⟨(x6_1), (wrap64 (x5_1 - (wrap64 ((wrap64 (Int.tdiv x5_1 x6_1)) * x6_1)))), (x8_1), (wrap64 (x7_1 - (wrap64 ((wrap64 (Int.tdiv x5_1 x6_1)) * x8_1)))), (by first | rfl | (simp; done) | (simp [*]; done)), (by first | rfl | (simp; done) | (simp [*]; done)), (by first | rfl | (simp; done) | (simp [*]; done)), (by first | rfl | (simp; done) | (simp [*]; done)), H', ⟨by have := HK1.out; omega⟩, by repeat (first | exact Drawn0.refl _ | apply Drawn0.step)⟩

/-! ### spec_l03Columns: function 55 -/
def spec_l03Columns.j0 : Nat → Int → Int → Int → Int → Int → Option (Int × Int × Int × Bool)
 | 0, _, _, _, _, _ => none
 | k + 1, x0, x1, x2, x3, x4 => (spec_l01Val.f k x0 x4).bind fun t210 => (if t210 > 12 then (some (0, 0, 0, false)) else ((spec_l01Power.f k x0 t210).bind fun t212 => (if t212 = 0 then (none) else ((spec_l03Cross.f k x0 x1 (wrap64 (Int.tdiv x4 t212)) (wrap64 (Int.tdiv x3 t212)) x2).bind fun t213 => (if t213 < 0 then (some (0, 0, 0, false)) else ((spec_l01Power.f k x0 t213).bind fun t214 => ((spec_l01InvMod.f k (wrap64 (Int.tdiv x4 t212)) t214).bind fun t215 => ((spec_l01MulMod.f x2 t215 t214).bind fun t216 => (some (t213, t216, t210, true))))))))))
def spec_l03Columns.f (k : Nat) (a0 : Int) (a1 : Int) (a2 : Int) (a3 : Int) (a4 : Int) : Option (Int × Int × Int × Bool) := (spec_l03Vals.f k a0 a3).bind fun t208 => ((spec_l03Vals.f k a0 a4).bind fun t209 => (if t208 < t209 then (spec_l03Columns.j0 k a0 a2 a1 a4 a3) else (spec_l03Columns.j0 k a0 a1 a2 a3 a4)))
set_option maxHeartbeats 8000000 in
set_option maxRecDepth 100000 in
theorem spec_l03Columns.calls (k : Nat) (a0 : Int) (a1 : Int) (a2 : Int) (a3 : Int) (a4 : Int) (r1 : Int) (r2 : Int) (r3 : Int) (r4 : Bool) (w : World) (h : spec_l03Columns.f k a0 a1 a2 a3 a4 = some (r1, r2, r3, r4)) :
  Calls Try.prog 55 #[.int .i64 a0, .int .i64 a1, .int .i64 a2, .int .i64 a3, .int .i64 a4] w fun e w' => e = .returned (.tuple #[.agg #[.int .i64 r1, .int .i64 r2, .int .i64 r3], .bool r4]) ∧ Below w.heap.size w w' := by
 have hu27 := Try.underlying27
 have HB := Aside0.mk (Below.refl w.heap.size w)
 unfold spec_l03Columns.f at h
 have H := h
 clear h
 replace H := zi H
 obtain ⟨t208, A6, H⟩ := H
 try dsimp only at H
 replace H := zi H
 obtain ⟨t209, A7, H⟩ := H
 try dsimp only at H
 have HC8 := Aside0.mk H
 clear H
 go_enter Try.func55, Try.ntmps55
 go_upto_if 24 with (first | ((with_reducible refine zg 10 rfl ?_); refine z3 10 27 0 0 0 ?_; intro gb207 hg w9 BK207 hb; have GW207 := sg hg; replace HB := bs hb; clear hb hg) | (go_at_call 76; (with_reducible refine (spec_l03Vals.calls k a0 a3 t208 _ A6.out).mono ?_); rintro e w' ⟨rfl, ⟨nd, rfl⟩⟩; (try first | exact zd | exact ze)) | (go_at_call 76; (with_reducible refine (spec_l03Vals.calls k a0 a4 t209 _ A7.out).mono ?_); rintro e w' ⟨rfl, ⟨nd, rfl⟩⟩; (try first | exact zd | exact ze)))
 repeat (go_quiet (first | ((with_reducible refine zg 10 rfl ?_); refine z3 10 27 0 0 0 ?_; intro gb207 hg w9 BK207 hb; have GW207 := sg hg; replace HB := bs hb; clear hb hg) | (go_at_call 76; (with_reducible refine (spec_l03Vals.calls k a0 a3 t208 _ A6.out).mono ?_); rintro e w' ⟨rfl, ⟨nd, rfl⟩⟩; (try first | exact zd | exact ze)) | (go_at_call 76; (with_reducible refine (spec_l03Vals.calls k a0 a4 t209 _ A7.out).mono ?_); rintro e w' ⟨rfl, ⟨nd, rfl⟩⟩; (try first | exact zd | exact ze))); go_upto_if 24 with (first | ((with_reducible refine zg 10 rfl ?_); refine z3 10 27 0 0 0 ?_; intro gb207 hg w9 BK207 hb; have GW207 := sg hg; replace HB := bs hb; clear hb hg) | (go_at_call 76; (with_reducible refine (spec_l03Vals.calls k a0 a3 t208 _ A6.out).mono ?_); rintro e w' ⟨rfl, ⟨nd, rfl⟩⟩; (try first | exact zd | exact ze)) | (go_at_call 76; (with_reducible refine (spec_l03Vals.calls k a0 a4 t209 _ A7.out).mono ?_); rintro e w' ⟨rfl, ⟨nd, rfl⟩⟩; (try first | exact zd | exact ze))))
 (try simp only [Act.put, zq, zr, zt])
 go_cut [1, 2, 3, 4] (fun v1 v2 v3 v4 wc => ∃ (kq : Nat) (x1_7 : Int) (x2_7 : Int) (x3_7 : Int) (x4_7 : Int), v1 = .int .i64 x1_7 ∧ v2 = .int .i64 x2_7 ∧ v3 = .int .i64 x3_7 ∧ v4 = .int .i64 x4_7 ∧ Aside0 (spec_l03Columns.j0 kq a0 x1_7 x2_7 x3_7 x4_7 = some (r1, r2, r3, r4)) ∧ Aside0 (kq ≤ k) ∧ Aside0 (wc.heap[gb207]? = some (.cells #[.int .i64 0, .int .i64 0, .int .i64 0] 27 (0, 0))) ∧ Aside0 (Below w.heap.size w wc))
 case first =>
  have H := HC8.out
  clear HC8
  replace H := ii H
  rcases H with ⟨c10, H⟩ | ⟨c10, H⟩
  ·have c10b0 := decide_eq_true c10
   clear c10
   (first | rw [c10b0] | (simp only [i64_w, i32_w]; rw [c10b0]) | skip)
   have H' := Aside0.mk H
   clear H
   go_wp2
   repeat (go_quiet (fail); try go_wp2)
   go_meet
   case rel => exact ⟨_, (a2), (a1), (a4), (a3), (by first | rfl | (simp; done) | (simp [*]; done)), (by first | rfl | (simp; done) | (simp [*]; done)), (by first | rfl | (simp; done) | (simp [*]; done)), (by first | rfl | (simp; done) | (simp [*]; done)), H', ⟨by first | omega | exact Nat.le_refl _⟩, ⟨be BK207⟩, ⟨bl⟩⟩
  ·have c10b0 := decide_eq_false c10
   clear c10
   (first | rw [c10b0] | (simp only [i64_w, i32_w]; rw [c10b0]) | skip)
   have H' := Aside0.mk H
   clear H
   go_wp2
   repeat (go_quiet (fail); try go_wp2)
   go_meet
   case rel => exact ⟨_, (a1), (a2), (a3), (a4), (by first | rfl | (simp; done) | (simp [*]; done)), (by first | rfl | (simp; done) | (simp [*]; done)), (by first | rfl | (simp; done) | (simp [*]; done)), (by first | rfl | (simp; done) | (simp [*]; done)), H', ⟨by first | omega | exact Nat.le_refl _⟩, ⟨be BK207⟩, ⟨bl⟩⟩
 case rest =>
  clear HC8
  obtain ⟨kq, x1_7, x2_7, x3_7, x4_7, rfl, rfl, rfl, rfl, HA, HJ7, BK207, HB⟩ := hcut
  cases kq with
  | zero => exact absurd HA.out (by simp [spec_l03Columns.j0])
  | succ kj7 =>
   have H := HA.out
   clear HA
   simp only [spec_l03Columns.j0] at H
   replace H := zi H
   obtain ⟨t210, A11, H⟩ := H
   try dsimp only at H
   replace H := ii H
   rcases H with ⟨c12, H⟩ | ⟨c12, H⟩
   ·have c12b0 := decide_eq_true c12
    clear c12
    simp only [Option.some.injEq, Prod.mk.injEq] at H
    obtain ⟨rfl, rfl, rfl, rfl⟩ := H
    go_wp2_with (first | (go_at_call 77; (with_reducible refine (spec_l01Val.calls kj7 a0 x4_7 t210 _ A11.out).mono ?_); rintro e w' ⟨rfl, ⟨nd, rfl⟩⟩; (try first | exact zd | exact ze)) | ((with_reducible refine zg 12 rfl ?_); refine z3 12 27 0 0 0 ?_; intro gb211 hg w13 BK211 hb; have GW211 := sg hg; have NB207_211 := nl hg BK207; replace BK207 := bb BK207 hb; replace HB := bs hb; clear hb hg; obtain ⟨hnb14, hnc14⟩ := zm NB207_211; obtain ⟨hcz15_0, hcz15_1, hcz15_2, hfz15_0, hfz15_1, hfz15_2⟩ := cq3 BK211; obtain ⟨hcz16_0, hcz16_1, hcz16_2, hfz16_0, hfz16_1, hfz16_2⟩ := cq3 BK207))
    repeat (go_quiet (first | (go_at_call 77; (with_reducible refine (spec_l01Val.calls kj7 a0 x4_7 t210 _ A11.out).mono ?_); rintro e w' ⟨rfl, ⟨nd, rfl⟩⟩; (try first | exact zd | exact ze))); try go_wp2_with (first | (go_at_call 77; (with_reducible refine (spec_l01Val.calls kj7 a0 x4_7 t210 _ A11.out).mono ?_); rintro e w' ⟨rfl, ⟨nd, rfl⟩⟩; (try first | exact zd | exact ze)) | ((with_reducible refine zg 12 rfl ?_); refine z3 12 27 0 0 0 ?_; intro gb211 hg w13 BK211 hb; have GW211 := sg hg; have NB207_211 := nl hg BK207; replace BK207 := bb BK207 hb; replace HB := bs hb; clear hb hg; obtain ⟨hnb14, hnc14⟩ := zm NB207_211; obtain ⟨hcz15_0, hcz15_1, hcz15_2, hfz15_0, hfz15_1, hfz15_2⟩ := cq3 BK211; obtain ⟨hcz16_0, hcz16_1, hcz16_2, hfz16_0, hfz16_1, hfz16_2⟩ := cq3 BK207)))
    refine bodyPost_ret (results_ct rfl _ _ gb207 27 #[.int .i64 0, .int .i64 0, .int .i64 0] (0, 0) _ rfl (bp) Try.underlying27 rfl (by kernel_rfl)) rfl ?_
    exact ⟨er, bl⟩
   ·have c12b0 := decide_eq_false c12
    clear c12
    replace H := zi H
    obtain ⟨t212, A17, H⟩ := H
    try dsimp only at H
    replace H := ii H
    rcases H with ⟨c18, H⟩ | ⟨c18, H⟩
    ·exact absurd H (by simp)
    ·obtain ⟨c18b0, c18b1⟩ := zy c18
     replace H := zi H
     obtain ⟨t213, A19, H⟩ := H
     try dsimp only at H
     replace H := ii H
     rcases H with ⟨c20, H⟩ | ⟨c20, H⟩
     ·have c20b0 := decide_eq_true c20
      clear c20
      simp only [Option.some.injEq, Prod.mk.injEq] at H
      obtain ⟨rfl, rfl, rfl, rfl⟩ := H
      go_wp2_with (first | (go_at_call 77; (with_reducible refine (spec_l01Val.calls kj7 a0 x4_7 t210 _ A11.out).mono ?_); rintro e w' ⟨rfl, ⟨nd, rfl⟩⟩; (try first | exact zd | exact ze)) | ((with_reducible refine zg 12 rfl ?_); refine z3 12 27 0 0 0 ?_; intro gb211 hg w21 BK211 hb; have GW211 := sg hg; have NB207_211 := nl hg BK207; replace BK207 := bb BK207 hb; replace HB := bs hb; clear hb hg; obtain ⟨hnb22, hnc22⟩ := zm NB207_211; obtain ⟨hcz23_0, hcz23_1, hcz23_2, hfz23_0, hfz23_1, hfz23_2⟩ := cq3 BK211) | (go_at_call 34; (with_reducible refine (spec_l01Power.calls kj7 a0 t210 t212 _ A17.out).mono ?_); rintro e w' ⟨rfl, ⟨nd, rfl⟩⟩; (try first | exact zd | exact ze)) | (go_at_call 78; (with_reducible refine (spec_l03Cross.calls kj7 a0 x1_7 (wrap64 (Int.tdiv x4_7 t212)) (wrap64 (Int.tdiv x3_7 t212)) x2_7 t213 _ A19.out).mono ?_); rintro e w' ⟨rfl, ⟨nd, rfl⟩⟩; (try first | exact zd | exact ze); obtain ⟨hcz24_0, hcz24_1, hcz24_2, hfz24_0, hfz24_1, hfz24_2⟩ := cq3 BK207))
      repeat (go_quiet (first | (go_at_call 77; (with_reducible refine (spec_l01Val.calls kj7 a0 x4_7 t210 _ A11.out).mono ?_); rintro e w' ⟨rfl, ⟨nd, rfl⟩⟩; (try first | exact zd | exact ze)) | (go_at_call 34; (with_reducible refine (spec_l01Power.calls kj7 a0 t210 t212 _ A17.out).mono ?_); rintro e w' ⟨rfl, ⟨nd, rfl⟩⟩; (try first | exact zd | exact ze)) | (go_at_call 78; (with_reducible refine (spec_l03Cross.calls kj7 a0 x1_7 (wrap64 (Int.tdiv x4_7 t212)) (wrap64 (Int.tdiv x3_7 t212)) x2_7 t213 _ A19.out).mono ?_); rintro e w' ⟨rfl, ⟨nd, rfl⟩⟩; (try first | exact zd | exact ze); obtain ⟨hcz24_0, hcz24_1, hcz24_2, hfz24_0, hfz24_1, hfz24_2⟩ := cq3 BK207)); try go_wp2_with (first | (go_at_call 77; (with_reducible refine (spec_l01Val.calls kj7 a0 x4_7 t210 _ A11.out).mono ?_); rintro e w' ⟨rfl, ⟨nd, rfl⟩⟩; (try first | exact zd | exact ze)) | ((with_reducible refine zg 12 rfl ?_); refine z3 12 27 0 0 0 ?_; intro gb211 hg w21 BK211 hb; have GW211 := sg hg; have NB207_211 := nl hg BK207; replace BK207 := bb BK207 hb; replace HB := bs hb; clear hb hg; obtain ⟨hnb22, hnc22⟩ := zm NB207_211; obtain ⟨hcz23_0, hcz23_1, hcz23_2, hfz23_0, hfz23_1, hfz23_2⟩ := cq3 BK211) | (go_at_call 34; (with_reducible refine (spec_l01Power.calls kj7 a0 t210 t212 _ A17.out).mono ?_); rintro e w' ⟨rfl, ⟨nd, rfl⟩⟩; (try first | exact zd | exact ze)) | (go_at_call 78; (with_reducible refine (spec_l03Cross.calls kj7 a0 x1_7 (wrap64 (Int.tdiv x4_7 t212)) (wrap64 (Int.tdiv x3_7 t212)) x2_7 t213 _ A19.out).mono ?_); rintro e w' ⟨rfl, ⟨nd, rfl⟩⟩; (try first | exact zd | exact ze); obtain ⟨hcz24_0, hcz24_1, hcz24_2, hfz24_0, hfz24_1, hfz24_2⟩ := cq3 BK207)))
      refine bodyPost_ret (results_ct rfl _ _ gb207 27 #[.int .i64 0, .int .i64 0, .int .i64 0] (0, 0) _ rfl (bp) Try.underlying27 rfl (by kernel_rfl)) rfl ?_
      exact ⟨er, bl⟩
     ·have c20b0 := decide_eq_false c20
      clear c20
      replace H := zi H
      obtain ⟨t214, A25, H⟩ := H
      try dsimp only at H
      replace H := zi H
      obtain ⟨t215, A26, H⟩ := H
      try dsimp only at H
      replace H := zi H
      obtain ⟨t216, A27, H⟩ := H
      try dsimp only at H
      simp only [Option.some.injEq, Prod.mk.injEq] at H
      obtain ⟨rfl, rfl, rfl, rfl⟩ := H
      go_wp2_with (first | (go_at_call 77; (with_reducible refine (spec_l01Val.calls kj7 a0 x4_7 t210 _ A11.out).mono ?_); rintro e w' ⟨rfl, ⟨nd, rfl⟩⟩; (try first | exact zd | exact ze)) | ((with_reducible refine zg 12 rfl ?_); refine z3 12 27 0 0 0 ?_; intro gb211 hg w28 BK211 hb; have GW211 := sg hg; have NB207_211 := nl hg BK207; replace BK207 := bb BK207 hb; replace HB := bs hb; clear hb hg; obtain ⟨hnb29, hnc29⟩ := zm NB207_211; obtain ⟨hcz30_0, hcz30_1, hcz30_2, hfz30_0, hfz30_1, hfz30_2⟩ := cq3 BK211) | (go_at_call 34; (with_reducible refine (spec_l01Power.calls kj7 a0 t210 t212 _ A17.out).mono ?_); rintro e w' ⟨rfl, ⟨nd, rfl⟩⟩; (try first | exact zd | exact ze)) | (go_at_call 78; (with_reducible refine (spec_l03Cross.calls kj7 a0 x1_7 (wrap64 (Int.tdiv x4_7 t212)) (wrap64 (Int.tdiv x3_7 t212)) x2_7 t213 _ A19.out).mono ?_); rintro e w' ⟨rfl, ⟨nd, rfl⟩⟩; (try first | exact zd | exact ze); have hqz0 : ∀ n, (World.drewN (World.setCell (World.setCell (World.setCell w28 ⟨gb211, 0, none⟩ (.int .i64 0)) ⟨gb211, 1, none⟩ (.int .i64 0)) ⟨gb211, 2, none⟩ (.int .i64 t210)) n).cell? ⟨gb211, 0, none⟩ = some (.int .i64 0) := (by intro n; go_simp); have hqz1 : ∀ n, (World.drewN (World.setCell (World.setCell (World.setCell w28 ⟨gb211, 0, none⟩ (.int .i64 0)) ⟨gb211, 1, none⟩ (.int .i64 0)) ⟨gb211, 2, none⟩ (.int .i64 t210)) n).cell? ⟨gb211, 1, none⟩ = some (.int .i64 0) := (by intro n; go_simp); have hqz2 : ∀ n, (World.drewN (World.setCell (World.setCell (World.setCell w28 ⟨gb211, 0, none⟩ (.int .i64 0)) ⟨gb211, 1, none⟩ (.int .i64 0)) ⟨gb211, 2, none⟩ (.int .i64 t210)) n).cell? ⟨gb211, 2, none⟩ = some (.int .i64 t210) := (by intro n; go_simp); have hqy0 : ∀ n m, (World.drewN (World.setCell (World.drewN (World.setCell (World.setCell (World.setCell w28 ⟨gb211, 0, none⟩ (.int .i64 0)) ⟨gb211, 1, none⟩ (.int .i64 0)) ⟨gb211, 2, none⟩ (.int .i64 t210)) n) ⟨gb211, 0, none⟩ (.int .i64 t213)) m).cell? ⟨gb211, 0, none⟩ = some (.int .i64 t213) := (by intro n m; go_simp); have hqy1 : ∀ n m, (World.drewN (World.setCell (World.drewN (World.setCell (World.setCell (World.setCell w28 ⟨gb211, 0, none⟩ (.int .i64 0)) ⟨gb211, 1, none⟩ (.int .i64 0)) ⟨gb211, 2, none⟩ (.int .i64 t210)) n) ⟨gb211, 0, none⟩ (.int .i64 t213)) m).cell? ⟨gb211, 1, none⟩ = some (.int .i64 0) := (by intro n m; go_simp); have hqy2 : ∀ n m, (World.drewN (World.setCell (World.drewN (World.setCell (World.setCell (World.setCell w28 ⟨gb211, 0, none⟩ (.int .i64 0)) ⟨gb211, 1, none⟩ (.int .i64 0)) ⟨gb211, 2, none⟩ (.int .i64 t210)) n) ⟨gb211, 0, none⟩ (.int .i64 t213)) m).cell? ⟨gb211, 2, none⟩ = some (.int .i64 t210) := (by intro n m; go_simp)) | (go_at_call 34; (with_reducible refine (spec_l01Power.calls kj7 a0 t213 t214 _ A25.out).mono ?_); rintro e w' ⟨rfl, ⟨nd, rfl⟩⟩; (try first | exact zd | exact ze)) | (go_at_call 79; (with_reducible refine (spec_l01InvMod.calls kj7 (wrap64 (Int.tdiv x4_7 t212)) t214 t215 _ A26.out).mono ?_); rintro e w' ⟨rfl, ⟨nd, rfl⟩⟩; (try first | exact zd | exact ze)) | (go_at_call 35; (with_reducible refine (spec_l01MulMod.calls x2_7 t215 t214 t216 _ A27.out).mono ?_); rintro e w' ⟨rfl, ⟨nd, rfl⟩⟩; (try first | exact zd | exact ze); obtain ⟨hcz31_0, hcz31_1, hcz31_2, hfz31_0, hfz31_1, hfz31_2⟩ := cq3 BK207))
      repeat (go_quiet (first | (go_at_call 77; (with_reducible refine (spec_l01Val.calls kj7 a0 x4_7 t210 _ A11.out).mono ?_); rintro e w' ⟨rfl, ⟨nd, rfl⟩⟩; (try first | exact zd | exact ze)) | (go_at_call 34; (with_reducible refine (spec_l01Power.calls kj7 a0 t210 t212 _ A17.out).mono ?_); rintro e w' ⟨rfl, ⟨nd, rfl⟩⟩; (try first | exact zd | exact ze)) | (go_at_call 78; (with_reducible refine (spec_l03Cross.calls kj7 a0 x1_7 (wrap64 (Int.tdiv x4_7 t212)) (wrap64 (Int.tdiv x3_7 t212)) x2_7 t213 _ A19.out).mono ?_); rintro e w' ⟨rfl, ⟨nd, rfl⟩⟩; (try first | exact zd | exact ze); have hqz0 : ∀ n, (World.drewN (World.setCell (World.setCell (World.setCell w28 ⟨gb211, 0, none⟩ (.int .i64 0)) ⟨gb211, 1, none⟩ (.int .i64 0)) ⟨gb211, 2, none⟩ (.int .i64 t210)) n).cell? ⟨gb211, 0, none⟩ = some (.int .i64 0) := (by intro n; go_simp); have hqz1 : ∀ n, (World.drewN (World.setCell (World.setCell (World.setCell w28 ⟨gb211, 0, none⟩ (.int .i64 0)) ⟨gb211, 1, none⟩ (.int .i64 0)) ⟨gb211, 2, none⟩ (.int .i64 t210)) n).cell? ⟨gb211, 1, none⟩ = some (.int .i64 0) := (by intro n; go_simp); have hqz2 : ∀ n, (World.drewN (World.setCell (World.setCell (World.setCell w28 ⟨gb211, 0, none⟩ (.int .i64 0)) ⟨gb211, 1, none⟩ (.int .i64 0)) ⟨gb211, 2, none⟩ (.int .i64 t210)) n).cell? ⟨gb211, 2, none⟩ = some (.int .i64 t210) := (by intro n; go_simp); have hqy0 : ∀ n m, (World.drewN (World.setCell (World.drewN (World.setCell (World.setCell (World.setCell w28 ⟨gb211, 0, none⟩ (.int .i64 0)) ⟨gb211, 1, none⟩ (.int .i64 0)) ⟨gb211, 2, none⟩ (.int .i64 t210)) n) ⟨gb211, 0, none⟩ (.int .i64 t213)) m).cell? ⟨gb211, 0, none⟩ = some (.int .i64 t213) := (by intro n m; go_simp); have hqy1 : ∀ n m, (World.drewN (World.setCell (World.drewN (World.setCell (World.setCell (World.setCell w28 ⟨gb211, 0, none⟩ (.int .i64 0)) ⟨gb211, 1, none⟩ (.int .i64 0)) ⟨gb211, 2, none⟩ (.int .i64 t210)) n) ⟨gb211, 0, none⟩ (.int .i64 t213)) m).cell? ⟨gb211, 1, none⟩ = some (.int .i64 0) := (by intro n m; go_simp); have hqy2 : ∀ n m, (World.drewN (World.setCell (World.drewN (World.setCell (World.setCell (World.setCell w28 ⟨gb211, 0, none⟩ (.int .i64 0)) ⟨gb211, 1, none⟩ (.int .i64 0)) ⟨gb211, 2, none⟩ (.int .i64 t210)) n) ⟨gb211, 0, none⟩ (.int .i64 t213)) m).cell? ⟨gb211, 2, none⟩ = some (.int .i64 t210) := (by intro n m; go_simp)) | (go_at_call 34; (with_reducible refine (spec_l01Power.calls kj7 a0 t213 t214 _ A25.out).mono ?_); rintro e w' ⟨rfl, ⟨nd, rfl⟩⟩; (try first | exact zd | exact ze)) | (go_at_call 79; (with_reducible refine (spec_l01InvMod.calls kj7 (wrap64 (Int.tdiv x4_7 t212)) t214 t215 _ A26.out).mono ?_); rintro e w' ⟨rfl, ⟨nd, rfl⟩⟩; (try first | exact zd | exact ze)) | (go_at_call 35; (with_reducible refine (spec_l01MulMod.calls x2_7 t215 t214 t216 _ A27.out).mono ?_); rintro e w' ⟨rfl, ⟨nd, rfl⟩⟩; (try first | exact zd | exact ze); obtain ⟨hcz31_0, hcz31_1, hcz31_2, hfz31_0, hfz31_1, hfz31_2⟩ := cq3 BK207)); try go_wp2_with (first | (go_at_call 77; (with_reducible refine (spec_l01Val.calls kj7 a0 x4_7 t210 _ A11.out).mono ?_); rintro e w' ⟨rfl, ⟨nd, rfl⟩⟩; (try first | exact zd | exact ze)) | ((with_reducible refine zg 12 rfl ?_); refine z3 12 27 0 0 0 ?_; intro gb211 hg w28 BK211 hb; have GW211 := sg hg; have NB207_211 := nl hg BK207; replace BK207 := bb BK207 hb; replace HB := bs hb; clear hb hg; obtain ⟨hnb29, hnc29⟩ := zm NB207_211; obtain ⟨hcz30_0, hcz30_1, hcz30_2, hfz30_0, hfz30_1, hfz30_2⟩ := cq3 BK211) | (go_at_call 34; (with_reducible refine (spec_l01Power.calls kj7 a0 t210 t212 _ A17.out).mono ?_); rintro e w' ⟨rfl, ⟨nd, rfl⟩⟩; (try first | exact zd | exact ze)) | (go_at_call 78; (with_reducible refine (spec_l03Cross.calls kj7 a0 x1_7 (wrap64 (Int.tdiv x4_7 t212)) (wrap64 (Int.tdiv x3_7 t212)) x2_7 t213 _ A19.out).mono ?_); rintro e w' ⟨rfl, ⟨nd, rfl⟩⟩; (try first | exact zd | exact ze); have hqz0 : ∀ n, (World.drewN (World.setCell (World.setCell (World.setCell w28 ⟨gb211, 0, none⟩ (.int .i64 0)) ⟨gb211, 1, none⟩ (.int .i64 0)) ⟨gb211, 2, none⟩ (.int .i64 t210)) n).cell? ⟨gb211, 0, none⟩ = some (.int .i64 0) := (by intro n; go_simp); have hqz1 : ∀ n, (World.drewN (World.setCell (World.setCell (World.setCell w28 ⟨gb211, 0, none⟩ (.int .i64 0)) ⟨gb211, 1, none⟩ (.int .i64 0)) ⟨gb211, 2, none⟩ (.int .i64 t210)) n).cell? ⟨gb211, 1, none⟩ = some (.int .i64 0) := (by intro n; go_simp); have hqz2 : ∀ n, (World.drewN (World.setCell (World.setCell (World.setCell w28 ⟨gb211, 0, none⟩ (.int .i64 0)) ⟨gb211, 1, none⟩ (.int .i64 0)) ⟨gb211, 2, none⟩ (.int .i64 t210)) n).cell? ⟨gb211, 2, none⟩ = some (.int .i64 t210) := (by intro n; go_simp); have hqy0 : ∀ n m, (World.drewN (World.setCell (World.drewN (World.setCell (World.setCell (World.setCell w28 ⟨gb211, 0, none⟩ (.int .i64 0)) ⟨gb211, 1, none⟩ (.int .i64 0)) ⟨gb211, 2, none⟩ (.int .i64 t210)) n) ⟨gb211, 0, none⟩ (.int .i64 t213)) m).cell? ⟨gb211, 0, none⟩ = some (.int .i64 t213) := (by intro n m; go_simp); have hqy1 : ∀ n m, (World.drewN (World.setCell (World.drewN (World.setCell (World.setCell (World.setCell w28 ⟨gb211, 0, none⟩ (.int .i64 0)) ⟨gb211, 1, none⟩ (.int .i64 0)) ⟨gb211, 2, none⟩ (.int .i64 t210)) n) ⟨gb211, 0, none⟩ (.int .i64 t213)) m).cell? ⟨gb211, 1, none⟩ = some (.int .i64 0) := (by intro n m; go_simp); have hqy2 : ∀ n m, (World.drewN (World.setCell (World.drewN (World.setCell (World.setCell (World.setCell w28 ⟨gb211, 0, none⟩ (.int .i64 0)) ⟨gb211, 1, none⟩ (.int .i64 0)) ⟨gb211, 2, none⟩ (.int .i64 t210)) n) ⟨gb211, 0, none⟩ (.int .i64 t213)) m).cell? ⟨gb211, 2, none⟩ = some (.int .i64 t210) := (by intro n m; go_simp)) | (go_at_call 34; (with_reducible refine (spec_l01Power.calls kj7 a0 t213 t214 _ A25.out).mono ?_); rintro e w' ⟨rfl, ⟨nd, rfl⟩⟩; (try first | exact zd | exact ze)) | (go_at_call 79; (with_reducible refine (spec_l01InvMod.calls kj7 (wrap64 (Int.tdiv x4_7 t212)) t214 t215 _ A26.out).mono ?_); rintro e w' ⟨rfl, ⟨nd, rfl⟩⟩; (try first | exact zd | exact ze)) | (go_at_call 35; (with_reducible refine (spec_l01MulMod.calls x2_7 t215 t214 t216 _ A27.out).mono ?_); rintro e w' ⟨rfl, ⟨nd, rfl⟩⟩; (try first | exact zd | exact ze); obtain ⟨hcz31_0, hcz31_1, hcz31_2, hfz31_0, hfz31_1, hfz31_2⟩ := cq3 BK207)))
      refine bodyPost_ret (results_ct rfl _ _ gb207 27 #[.int .i64 t213, .int .i64 t216, .int .i64 t210] (0, 0) _ rfl (bp) Try.underlying27 rfl (by kernel_rfl)) rfl ?_
      exact ⟨er, bl⟩

/-! ### spec_LatticeOf: function 14 -/
def spec_LatticeOf.j0 : Nat → Int → Int → Int → Int → Int → Bool → Option (Int × Int × Int × Int)
 | 0, _, _, _, _, _, _ => none
 | k + 1, x0, x1, x2, x3, x4, x18 => if x18 = true then (some (0, 0, 0, 2)) else (if (wrap64 ((wrap64 (x1 * x4)) - (wrap64 (x2 * x3)))) = 0 then (some (0, 0, 0, 5)) else ((spec_l03Columns.f k x0 x1 x2 x3 x4).bind fun bt223 => (if bt223.2.2.2 = true then (some (bt223.1, bt223.2.1, bt223.2.2.1, 0)) else (some (0, 0, 0, 3)))))
def spec_LatticeOf.f (k : Nat) (a0 : Int) (a1 : Int) (a2 : Int) (a3 : Int) (a4 : Int) : Option (Int × Int × Int × Int) := (spec_l01Prime.f a0).bind fun t218 => (if t218 = true then ((spec_l01In.f a1 (-1000000) 1000000).bind fun t219 => (if t219 = true then ((spec_l01In.f a2 (-1000000) 1000000).bind fun t220 => (if t220 = true then ((spec_l01In.f a3 (-1000000) 1000000).bind fun t221 => (if t221 = true then ((spec_l01In.f a4 (-1000000) 1000000).bind fun t222 => (spec_LatticeOf.j0 k a0 a1 a2 a3 a4 (!t222))) else (spec_LatticeOf.j0 k a0 a1 a2 a3 a4 true))) else (spec_LatticeOf.j0 k a0 a1 a2 a3 a4 true))) else (spec_LatticeOf.j0 k a0 a1 a2 a3 a4 true))) else (some (0, 0, 0, 1)))
set_option maxHeartbeats 8000000 in
set_option maxRecDepth 100000 in
theorem spec_LatticeOf.calls (k : Nat) (a0 : Int) (a1 : Int) (a2 : Int) (a3 : Int) (a4 : Int) (r1 : Int) (r2 : Int) (r3 : Int) (r4 : Int) (w : World) (h : spec_LatticeOf.f k a0 a1 a2 a3 a4 = some (r1, r2, r3, r4)) :
  Calls Try.prog 14 #[.int .i64 a0, .int .i64 a1, .int .i64 a2, .int .i64 a3, .int .i64 a4] w fun e w' => e = .returned (.tuple #[.agg #[.int .i64 r1, .int .i64 r2, .int .i64 r3], .int .i64 r4]) ∧ Below w.heap.size w w' := by
 have hu27 := Try.underlying27
 have HB := Aside0.mk (Below.refl w.heap.size w)
 unfold spec_LatticeOf.f at h
 have H := h
 clear h
 replace H := zi H
 obtain ⟨t218, A6, H⟩ := H
 try dsimp only at H
 by_cases c7 : t218 = true
 ·subst c7
  rw [if_pos rfl] at H
  have HC8 := Aside0.mk H
  clear H
  go_enter Try.func14, Try.ntmps14
  go_upto_region 3 with (first | ((with_reducible refine zg 10 rfl ?_); refine z3 10 27 0 0 0 ?_; intro gb217 hg w9 BK217 hb; have GW217 := sg hg; replace HB := bs hb; clear hb hg) | ((with_reducible refine zf 54 rfl ?_); refine g1 (some 15) Try.func54 #[.int .i64 a0] ?_; (with_reducible refine (spec_l01Prime.calls a0 true _ A6.out).mono ?_); rintro e w' ⟨rfl, ⟨nd, rfl⟩⟩; refine ⟨_, rfl, ?_⟩))
  (try simp only [Act.put, zq, zr, zt])
  go_cut [18] (fun v18 wc => ∃ (kq : Nat) (x18_7 : Bool), v18 = .bool x18_7 ∧ Aside0 (spec_LatticeOf.j0 kq a0 a1 a2 a3 a4 x18_7 = some (r1, r2, r3, r4)) ∧ Aside0 (kq ≤ k) ∧ Aside0 (wc.heap[gb217]? = some (.cells #[.int .i64 0, .int .i64 0, .int .i64 0] 27 (0, 0))) ∧ Aside0 (Below w.heap.size w wc))
  case first =>
   have H := HC8.out
   clear HC8
   replace H := zi H
   obtain ⟨t219, A10, H⟩ := H
   try dsimp only at H
   by_cases c11 : t219 = true
   ·subst c11
    rw [if_pos rfl] at H
    replace H := zi H
    obtain ⟨t220, A12, H⟩ := H
    try dsimp only at H
    by_cases c13 : t220 = true
    ·subst c13
     rw [if_pos rfl] at H
     replace H := zi H
     obtain ⟨t221, A14, H⟩ := H
     try dsimp only at H
     by_cases c15 : t221 = true
     ·subst c15
      rw [if_pos rfl] at H
      replace H := zi H
      obtain ⟨t222, A16, H⟩ := H
      try dsimp only at H
      have H' := Aside0.mk H
      clear H
      go_wp2_with (first | ((with_reducible refine zf 33 rfl ?_); refine g1 (some 20) Try.func33 #[.int .i64 a1, .int .i64 (-1000000), .int .i64 1000000] ?_; (with_reducible refine (spec_l01In.calls a1 (-1000000) 1000000 true _ A10.out).mono ?_); rintro e w' ⟨rfl, ⟨nd, rfl⟩⟩; refine ⟨_, rfl, ?_⟩) | (go_at_call 33; (with_reducible refine (spec_l01In.calls a2 (-1000000) 1000000 true _ A12.out).mono ?_); rintro e w' ⟨rfl, ⟨nd, rfl⟩⟩) | (go_at_call 33; (with_reducible refine (spec_l01In.calls a3 (-1000000) 1000000 true _ A14.out).mono ?_); rintro e w' ⟨rfl, ⟨nd, rfl⟩⟩) | (go_at_call 33; (with_reducible refine (spec_l01In.calls a4 (-1000000) 1000000 t222 _ A16.out).mono ?_); rintro e w' ⟨rfl, ⟨nd, rfl⟩⟩))
      go_meet
      case rel => exact ⟨_, (!t222), (by first | rfl | (simp; done) | (simp [*]; done)), H', ⟨by first | omega | exact Nat.le_refl _⟩, ⟨be BK217⟩, ⟨bl⟩⟩
     ·replace c15 := Bool.eq_false_iff.mpr c15
      subst c15
      have H1 : (spec_LatticeOf.j0 k a0 a1 a2 a3 a4 true) = some (r1, r2, r3, r4) := by rw [if_neg (show ¬ (false = true) by decide)] at H; exact H
      clear H
      have H := H1
      clear H1
      have H' := Aside0.mk H
      clear H
      go_wp2_with (first | ((with_reducible refine zf 33 rfl ?_); refine g1 (some 20) Try.func33 #[.int .i64 a1, .int .i64 (-1000000), .int .i64 1000000] ?_; (with_reducible refine (spec_l01In.calls a1 (-1000000) 1000000 true _ A10.out).mono ?_); rintro e w' ⟨rfl, ⟨nd, rfl⟩⟩; refine ⟨_, rfl, ?_⟩) | (go_at_call 33; (with_reducible refine (spec_l01In.calls a2 (-1000000) 1000000 true _ A12.out).mono ?_); rintro e w' ⟨rfl, ⟨nd, rfl⟩⟩) | (go_at_call 33; (with_reducible refine (spec_l01In.calls a3 (-1000000) 1000000 false _ A14.out).mono ?_); rintro e w' ⟨rfl, ⟨nd, rfl⟩⟩))
      go_meet
      case rel => exact ⟨_, (true), (by first | rfl | (simp; done) | (simp [*]; done)), H', ⟨by first | omega | exact Nat.le_refl _⟩, ⟨be BK217⟩, ⟨bl⟩⟩
    ·replace c13 := Bool.eq_false_iff.mpr c13
     subst c13
     have H1 : (spec_LatticeOf.j0 k a0 a1 a2 a3 a4 true) = some (r1, r2, r3, r4) := by rw [if_neg (show ¬ (false = true) by decide)] at H; exact H
     clear H
     have H := H1
     clear H1
     have H' := Aside0.mk H
     clear H
     go_wp2_with (first | ((with_reducible refine zf 33 rfl ?_); refine g1 (some 20) Try.func33 #[.int .i64 a1, .int .i64 (-1000000), .int .i64 1000000] ?_; (with_reducible refine (spec_l01In.calls a1 (-1000000) 1000000 true _ A10.out).mono ?_); rintro e w' ⟨rfl, ⟨nd, rfl⟩⟩; refine ⟨_, rfl, ?_⟩) | (go_at_call 33; (with_reducible refine (spec_l01In.calls a2 (-1000000) 1000000 false _ A12.out).mono ?_); rintro e w' ⟨rfl, ⟨nd, rfl⟩⟩))
     go_meet
     case rel => exact ⟨_, (true), (by first | rfl | (simp; done) | (simp [*]; done)), H', ⟨by first | omega | exact Nat.le_refl _⟩, ⟨be BK217⟩, ⟨bl⟩⟩
   ·replace c11 := Bool.eq_false_iff.mpr c11
    subst c11
    have H1 : (spec_LatticeOf.j0 k a0 a1 a2 a3 a4 true) = some (r1, r2, r3, r4) := by rw [if_neg (show ¬ (false = true) by decide)] at H; exact H
    clear H
    have H := H1
    clear H1
    have H' := Aside0.mk H
    clear H
    go_wp2_with (first | ((with_reducible refine zf 33 rfl ?_); refine g1 (some 20) Try.func33 #[.int .i64 a1, .int .i64 (-1000000), .int .i64 1000000] ?_; (with_reducible refine (spec_l01In.calls a1 (-1000000) 1000000 false _ A10.out).mono ?_); rintro e w' ⟨rfl, ⟨nd, rfl⟩⟩; refine ⟨_, rfl, ?_⟩))
    go_meet
    case rel => exact ⟨_, (true), (by first | rfl | (simp; done) | (simp [*]; done)), H', ⟨by first | omega | exact Nat.le_refl _⟩, ⟨be BK217⟩, ⟨bl⟩⟩
  case rest =>
   clear HC8
   obtain ⟨kq, x18_7, rfl, HA, HJ7, BK217, HB⟩ := hcut
   cases kq with
   | zero => exact absurd HA.out (by simp [spec_LatticeOf.j0])
   | succ kj7 =>
    have H := HA.out
    clear HA
    simp only [spec_LatticeOf.j0] at H
    by_cases c17 : x18_7 = true
    ·subst c17
     rw [if_pos rfl] at H
     simp only [Option.some.injEq, Prod.mk.injEq] at H
     obtain ⟨rfl, rfl, rfl, rfl⟩ := H
     obtain ⟨hcz18_0, hcz18_1, hcz18_2, hfz18_0, hfz18_1, hfz18_2⟩ := cq3 BK217
     go_wp2
     refine bodyPost_ret (results_ct rfl _ _ gb217 27 #[.int .i64 0, .int .i64 0, .int .i64 0] (0, 0) _ rfl (bp) Try.underlying27 rfl (by kernel_rfl)) rfl ?_
     exact ⟨er, bl⟩
    ·replace c17 := Bool.eq_false_iff.mpr c17
     subst c17
     have H1 : (if (wrap64 ((wrap64 (a1 * a4)) - (wrap64 (a2 * a3)))) = 0 then (some (0, 0, 0, 5)) else ((spec_l03Columns.f kj7 a0 a1 a2 a3 a4).bind fun bt223 => (if bt223.2.2.2 = true then (some (bt223.1, bt223.2.1, bt223.2.2.1, 0)) else (some (0, 0, 0, 3))))) = some (r1, r2, r3, r4) := by rw [if_neg (show ¬ (false = true) by decide)] at H; exact H
     clear H
     have H := H1
     clear H1
     replace H := ii H
     rcases H with ⟨c19, H⟩ | ⟨c19, H⟩
     ·obtain ⟨c19b0, c19b1⟩ := zz c19
      clear c19
      simp only [Option.some.injEq, Prod.mk.injEq] at H
      obtain ⟨rfl, rfl, rfl, rfl⟩ := H
      obtain ⟨hcz20_0, hcz20_1, hcz20_2, hfz20_0, hfz20_1, hfz20_2⟩ := cq3 BK217
      go_wp2
      refine bodyPost_ret (results_ct rfl _ _ gb217 27 #[.int .i64 0, .int .i64 0, .int .i64 0] (0, 0) _ rfl (bp) Try.underlying27 rfl (by kernel_rfl)) rfl ?_
      exact ⟨er, bl⟩
     ·obtain ⟨c19b0, c19b1⟩ := zy c19
      replace H := zi H
      obtain ⟨⟨t223, t224, t225, t226⟩, A21, H⟩ := H
      try dsimp only at H
      by_cases c22 : t226 = true
      ·subst c22
       rw [if_pos rfl] at H
       simp only [Option.some.injEq, Prod.mk.injEq] at H
       obtain ⟨rfl, rfl, rfl, rfl⟩ := H
       go_wp2_with (first | ((with_reducible refine zf 55 rfl ?_); refine g1 (some 54) Try.func55 #[.int .i64 a0, .int .i64 a1, .int .i64 a2, .int .i64 a3, .int .i64 a4] ?_; (with_reducible refine (spec_l03Columns.calls kj7 a0 a1 a2 a3 a4 t223 t224 t225 true _ A21.out).mono ?_); rintro e w23 ⟨rfl, hb⟩; refine ⟨_, rfl, ?_⟩; replace BK217 := bb BK217 hb; replace HB := bs hb; (try clear hb)) | ((with_reducible refine zg 12 rfl ?_); refine z3 12 27 0 0 0 ?_; intro gb227 hg w24 BK227 hb; have GW227 := sg hg; have NB217_227 := nl hg BK217; replace BK217 := bb BK217 hb; replace HB := bs hb; clear hb hg; obtain ⟨hnb25, hnc25⟩ := zm NB217_227; obtain ⟨hcz26_0, hcz26_1, hcz26_2, hfz26_0, hfz26_1, hfz26_2⟩ := cq3 BK227; obtain ⟨hcz27_0, hcz27_1, hcz27_2, hfz27_0, hfz27_1, hfz27_2⟩ := cq3 BK217))
       refine bodyPost_ret (results_ct rfl _ _ gb217 27 #[.int .i64 t223, .int .i64 t224, .int .i64 t225] (0, 0) _ rfl (bp) Try.underlying27 rfl (by kernel_rfl)) rfl ?_
       exact ⟨er, bl⟩
      ·replace c22 := Bool.eq_false_iff.mpr c22
       subst c22
       have H1 : (some (0, 0, 0, 3)) = some (r1, r2, r3, r4) := by rw [if_neg (show ¬ (false = true) by decide)] at H; exact H
       clear H
       have H := H1
       clear H1
       simp only [Option.some.injEq, Prod.mk.injEq] at H
       obtain ⟨rfl, rfl, rfl, rfl⟩ := H
       go_wp2_with (first | ((with_reducible refine zf 55 rfl ?_); refine g1 (some 54) Try.func55 #[.int .i64 a0, .int .i64 a1, .int .i64 a2, .int .i64 a3, .int .i64 a4] ?_; (with_reducible refine (spec_l03Columns.calls kj7 a0 a1 a2 a3 a4 t223 t224 t225 false _ A21.out).mono ?_); rintro e w28 ⟨rfl, hb⟩; refine ⟨_, rfl, ?_⟩; replace BK217 := bb BK217 hb; replace HB := bs hb; (try clear hb)) | ((with_reducible refine zg 12 rfl ?_); refine z3 12 27 0 0 0 ?_; intro gb227 hg w29 BK227 hb; have GW227 := sg hg; have NB217_227 := nl hg BK217; replace BK217 := bb BK217 hb; replace HB := bs hb; clear hb hg; obtain ⟨hnb30, hnc30⟩ := zm NB217_227; obtain ⟨hcz31_0, hcz31_1, hcz31_2, hfz31_0, hfz31_1, hfz31_2⟩ := cq3 BK227; obtain ⟨hcz32_0, hcz32_1, hcz32_2, hfz32_0, hfz32_1, hfz32_2⟩ := cq3 BK217))
       refine bodyPost_ret (results_ct rfl _ _ gb217 27 #[.int .i64 0, .int .i64 0, .int .i64 0] (0, 0) _ rfl (bp) Try.underlying27 rfl (by kernel_rfl)) rfl ?_
       exact ⟨er, bl⟩
 ·replace c7 := Bool.eq_false_iff.mpr c7
  subst c7
  have H1 : (some (0, 0, 0, 1)) = some (r1, r2, r3, r4) := by rw [if_neg (show ¬ (false = true) by decide)] at H; exact H
  clear H
  have H := H1
  clear H1
  simp only [Option.some.injEq, Prod.mk.injEq] at H
  obtain ⟨rfl, rfl, rfl, rfl⟩ := H
  go_enter Try.func14, Try.ntmps14
  go_wp2_with (first | ((with_reducible refine zg 10 rfl ?_); refine z3 10 27 0 0 0 ?_; intro gb217 hg w33 BK217 hb; have GW217 := sg hg; replace HB := bs hb; clear hb hg) | ((with_reducible refine zf 54 rfl ?_); refine g1 (some 15) Try.func54 #[.int .i64 a0] ?_; (with_reducible refine (spec_l01Prime.calls a0 false _ A6.out).mono ?_); rintro e w' ⟨rfl, ⟨nd, rfl⟩⟩; refine ⟨_, rfl, ?_⟩; (try (rw [drewN_self w33]; generalize hq_ : World.drewN w33 _ = w33; have n0_ : Aside0 (w33.heap[gb217]? = some (.cells #[.int .i64 0, .int .i64 0, .int .i64 0] 27 (0, 0))) := ⟨by rw [← hq_]; exact (be BK217)⟩; have n1_ : Aside0 (Below w.heap.size w w33) := ⟨by rw [← hq_]; exact (bl)⟩; clear BK217 HB hq_; have BK217 := n0_; have HB := n1_; clear n0_ n1_)); obtain ⟨hcz34_0, hcz34_1, hcz34_2, hfz34_0, hfz34_1, hfz34_2⟩ := cq3 BK217))
  refine bodyPost_ret (results_ct rfl _ _ gb217 27 #[.int .i64 0, .int .i64 0, .int .i64 0] (0, 0) _ rfl (bp) Try.underlying27 rfl (by kernel_rfl)) rfl ?_
  exact ⟨er, bl⟩

end Go.Proofs.Ytkfodnlogflcpaa.PFnLattices
